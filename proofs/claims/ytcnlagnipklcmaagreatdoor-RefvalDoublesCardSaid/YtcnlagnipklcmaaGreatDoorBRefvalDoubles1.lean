/- Contracts of functions (their ground), for the claim on RefvalDoubles. -/
import Derived.WalkKit
import Derived.Laws.CopyOwn
import Derived.LoopN
import Derived.Laws.StructEq
import Derived.Scope
set_option linter.unusedVariables false
set_option linter.unusedSimpArgs false
noncomputable section
open Go.IntKind(i8 i16 i32 i64 u8 u16 u32 u64)
open List renaming map_cons->bYM,getElem?_map->bYR,getElem?_take_of_lt->bYS,mem_cons_self->bYU,mem_of_getElem?->bYW,getElem?_drop->bYZ,getElem?_eq_getElem->bZD,mem_singleton->bZE,map_nil->bZF,mem_cons_of_mem->bZG,map_toArray->bZI,getElem?_of_mem->bZL,map_append->bZM,mem_append->bZP,length_append->bZQ,mem_cons->bZT,mapM_cons->bZU,range->bZX,getElem?_append_left->bZY,getElem?_append_right->bZZ,size_toArray->cAB,take_left->cAC,map_congr_left->cAD,cons_append->cAF,length_map->cAG,getD->cAH,append_assoc->cAI,getElem?_eq_none->cAJ,getElem?_cons_succ->cAK,Pairwise->cAM,mem_range->cAP,replicate->cAQ,eq_nil_of_length_eq_zero->cBC,length_take->cBD,mem_append_right->cBE,drop_left->cBF,flatMap_def->cBI
open Nat renaming le_refl->bYN,beq->bYO,zero_add->bYP,ble->bYQ,mul_one->bYX,blt->bYY,eq_of_beq_eq_true->bZB,lt_or_ge->bZC,add_mul->bZH,le_trans->bZJ,lt_of_lt_of_le->bZN,add_zero->bZO,exists_eq_add_of_le->bZS,mul_le_mul_right->cAA,le_of_ble_eq_true->cAL,ne_of_beq_eq_false->cAR,le_mul_of_pos_right->cAW,mul_le_mul_left->cBB,add_one_ne_zero->cBK,add_sub_cancel->cBL
open Bool renaming and_eq_true->bYT,not_eq_true'->bZV,or_eq_true->bZW,not_true->cAN,false_or->cAO
open Option renaming bind_assoc->bYV,map_some->bZA,map_eq_some_iff->bZR,bind_some->cAE,bind_eq_bind->cAS,pure_def->cAT,bind_eq_some_iff->cAU,map_none->cAY,getD_some->cBJ
open Int renaming mul_le_mul_of_nonneg_right->cAX
namespace Go.Proofs.YtcnlagnipklcmaaGreatDoor
theorem dqT{p:Prop}[Decidable p](h:p):decide p=true:=decide_eq_true h
theorem dqF{p:Prop}[Decidable p](h:¬p):decide p=false:=decide_eq_false h
theorem aR{α:Sort _}{c:Prop}[Decidable c]{a b:α}(h:c:=by omega):ite c a b=a:=if_pos h
theorem bI{α:Sort _}{c:Prop}[Decidable c]{a b:α}(h:¬c:=by omega):ite c a b=b:=if_neg h
theorem cD{a n:Nat}(h:0<a:=by omega):0<a^n:=Nat.pow_pos h
theorem gO{b m n:Nat}(h:0<b:=by omega)(h':m<=n:=by omega):b^m<=b^n:=Nat.pow_le_pow_right h h'
namespace M
open Go
theorem Jc(n:Int):i64.wrap n=if n%18446744073709551616>=9223372036854775808 then n%18446744073709551616-18446744073709551616 else n%18446744073709551616:=by
 show(if(true&&decide (n%18446744073709551616>=9223372036854775808))=true then n%18446744073709551616-18446744073709551616 else n%18446744073709551616)=_;simp only[Bool.true_and,decide_eq_true_eq]
theorem wrap_i64{n:Int}(h:-9223372036854775808<=n:=by omega)(h':n<9223372036854775808:=by omega):i64.wrap n=n:=by
 rw[Jc];split <;> omega
theorem gG(n:Int):u64.wrap n=n%18446744073709551616:=by
 show(if(false&&decide (n%18446744073709551616>=9223372036854775808))=true then n%18446744073709551616-18446744073709551616 else n%18446744073709551616)=_;simp
theorem wrap_u64{n:Int}(h:0<=n:=by omega)(h':n<18446744073709551616:=by omega):u64.wrap n=n:=by
 rw[gG];omega
theorem wrap_u32(n:Int):u32.wrap n=n%4294967296:=by
 show(if(false&&decide (n%4294967296>=2147483648))=true then n%4294967296-4294967296 else n%4294967296)=_;simp
end M
namespace AI
open Go Go.RowKit
def leB:Int->Int->Bool
 | .ofNat m,.ofNat n=>bYQ m n
 | .negSucc _,.ofNat _=>true
 | .ofNat _,.negSucc _=>false
 | .negSucc m,.negSucc n=>bYQ n m
theorem Ks(a b:Int):leB a b=true↔a<=b:=by
 cases a <;> cases b <;> simp only[leB,Nat.ble_eq,Bool.false_eq_true,true_iff,false_iff,Int.ofNat_eq_natCast] <;> omega
instance (priority:=2000) decLeI (a b:Int):Decidable (a<=b):=match h:leB a b with
 |true=>isTrue ((Ks a b).1 h)
 |false=>isFalse fun h'=>by rw[(Ks a b).2 h']at h;cases h
instance (priority := 2000) decLtI (a b : Int) : Decidable (a < b) := match h : leB b a with
  | true => isFalse fun h' => by have := (Ks b a).1 h; omega
  | false => isTrue (by have h1 : ¬ b ≤ a := fun h' => by rw [(Ks b a).2 h'] at h; cases h
                        omega)
inductive S where
 |sc (v:Value)
 |ints (k:IntKind) (ns:List Int)
 |bot
inductive L where
 |s (x:S)
 |rows (sz n:Nat) (f:Nat->List S)
 |Qj (cs:List S)
 |Uy (k:IntKind) (ns:List Int)
 |ptr (id off:Nat)
 |Ts (id i:Nat)
 |buf (id n:Nat)
 |view (id off n:Nat)
inductive V where
 |one (l:L)
 |agg (cs:List S)
inductive A where
 |v (x:V)
 |Pm (xs:List V)
 |any
inductive oH where
 |ints (k:IntKind) (ns:List Int)
 |cells (cs:List S)
structure lO where
 e:TypeId
 cont:oH
structure St where
 fr:Nat->A
 hp:Nat->Option lO
 n:Nat
inductive D where
 |s (x:S)
 |rows (sz n:Nat) (f:Nat->List S)
 |agg (cs:List S)
 |own (e:TypeId) (k:IntKind) (ns:List Int)
 |io (e:TypeId) (k:IntKind) (ns:List Int) (off n:Nat)
 |back (i off n:Nat)
inductive TK where
 |bool
 |int (k:IntKind)
 |float (k:FloatKind)
 |other
 |struct (fs:List (Nat×Nat×Bool))
 |arr (len sQ:Nat) (eagg:Bool)
 |slice (elem:TypeId)
 |str
structure TI where
 size:Nat
 bytes:Nat
 zero:List Value
 kind:TK
def TK.isAgg:TK->Bool
 | .struct _=>true
 | .arr _ _ _=>true
 |_=>false
abbrev Dh(v:Value):A:=.v (.one (.s (.sc v)))
abbrev Co{α:Type}(f:Nat->α)(d:Nat)(a:α):Nat->α:=fun i=>bif bYO i d then a else f i
def bitsI0(op:BinOp)(k:IntKind)(x y:Int):Int :=
 match op with
 | .and=>k.wrap (BitVec.ofInt k.bits x &&& BitVec.ofInt k.bits y).toNat
 | .or=>k.wrap (BitVec.ofInt k.bits x |||BitVec.ofInt k.bits y).toNat
 | .xor=>k.wrap (BitVec.ofInt k.bits x ^^^ BitVec.ofInt k.bits y).toNat
 |_=>k.wrap (BitVec.ofInt k.bits x &&& ~~~(BitVec.ofInt k.bits y)).toNat
theorem Yw:∃f:BinOp->IntKind->Int->Int->Int,f=bitsI0:=⟨_,rfl⟩
def gR:BinOp->IntKind->Int->Int->Int:=Classical.choose Yw
theorem wO:gR=bitsI0:=Classical.choose_spec Yw
def binK{R:Type}(op:BinOp)(x y:Value)(K:Value->Option R):Option R :=
 match x,y with
 | .int k a,.int k' b =>
  match op with
  | .shl=>if b<0 then none else K (.int k (k.wrap (a*((2^(min b.toNat k.bits):Nat):Int))))
  | .shr=>if b<0 then none else K (.int k (a/((2^(min b.toNat k.bits):Nat):Int)))
  | .add=>if k=k' then K (.int k (k.wrap (a+b)))else none
  | .sub=>if k=k' then K (.int k (k.wrap (a-b)))else none
  | .mul=>if k=k' then K (.int k (k.wrap (a*b)))else none
  | .quo=>if k=k' then(if b=0 then none else K (.int k (k.wrap (a.tdiv b))))else none
  | .rem=>if k=k' then(if b=0 then none else K (.int k (a.tmod b)))else none
  | .and=>if k=k' then K (.int k (gR .and k a b))else none
  | .or=>if k=k' then K (.int k (gR .or k a b))else none
  | .xor=>if k=k' then K (.int k (gR .xor k a b))else none
  | .andNot=>if k=k' then K (.int k (gR .andNot k a b))else none
  | .eql=>if k=k' then K (.bool (a==b))else none
  | .neq=>if k=k' then K (.bool (a !=b))else none
  | .lss=>if k=k' then K (.bool (decide (a<b)))else none
  | .leq=>if k=k' then K (.bool (decide (a<=b)))else none
  | .gtr=>if k=k' then K (.bool (decide (b<a)))else none
  | .geq=>if k=k' then K (.bool (decide (b<=a)))else none
 | .float k a,.float k' b =>
  match op with
  | .add=>if k=k' then(k.format.add a b).bind fun r=>K (.float k r)else none
  | .sub=>if k=k' then(k.format.sub a b).bind fun r=>K (.float k r)else none
  | .mul=>if k=k' then(k.format.mul a b).bind fun r=>K (.float k r)else none
  | .quo=>if k=k' then(k.format.div a b).bind fun r=>K (.float k r)else none
  | .eql=>if k=k' then K (.bool (k.format.order a b==some .eq))else none
  | .neq=>if k=k' then K (.bool (k.format.order a b !=some .eq))else none
  | .lss=>if k=k' then K (.bool (k.format.order a b==some .lt))else none
  | .leq=>if k=k' then K (.bool (k.format.order a b==some .lt||k.format.order a b==some .eq))else none
  | .gtr=>if k=k' then K (.bool (k.format.order a b==some .gt))else none
  | .geq=>if k=k' then K (.bool (k.format.order a b==some .gt||k.format.order a b==some .eq))else none
  |_=>none
 | .bool a,.bool b =>
  match op with
  | .eql=>K (.bool (a==b))
  | .neq=>K (.bool (a !=b))
  |_=>none
 |_,_=>none
def boolT(t:Option TI)(a:Value):Bool:=match a with
 | .bool _=>match t with
  |some ⟨_,_,_,.bool⟩=>true
  |_=>false
 |_=>true
def unK{R:Type}(op:UnOp)(x:Value)(K:Value->Option R):Option R :=
 match op,x with
 | .neg,.int k n=>K (.int k (k.wrap (0-n)))
 | .xor,.int k n=>K (.int k (gR .xor k (if k.signed then -1 else k.max) n))
 | .neg,.float k b=>K (.float k (Op.negFloat k b))
 | .not,.bool b=>K (.bool (!b))
 |_,_=>none
def convK{R:Type}(dst:TK)(x:Value)(K:Value->Option R):Option R :=
 match dst,x with
 | .int k,.int _ n=>K (.int k (k.wrap n))
 | .float k,.int _ n=>K (.float k (k.nearest n))
 | .int k,.float s b=>((s.decode b).toInt .zero).bind fun n=>if k.min<=n/\n<=k.max then K (.int k n)else none
 | .float k,.float s b=>if s=k then K (.float k b)else none
 |_,_=>none
def refsL:L->List Nat
 | .ptr id _=>[id]
 | .Ts id _=>[id]
 | .buf id _=>[id]
 | .view id _ _=>[id]
 |_=>[]
def refsV:V->List Nat
 | .one l=>refsL l
 | .agg _=>[]
def refs:A->List Nat
 | .v x=>refsV x
 | .Pm xs=>xs.flatMap refsV
 | .any=>[]
def cellsOf(hp:Nat->Option lO):A->Option (List S×List (Nat×Option lO))
 | .v (.agg cs)=>some (cs,[])
 | .v (.one (.s x))=>some ([x],[])
 | .v (.one (.buf id _))=>match hp id with
  |some ⟨_,.ints k ns⟩=>some ([.ints k ns],[(id,none)])
  |_=>none
 | .v (.one (.view id off n))=>match hp id with
  |some ⟨_,.ints k ns⟩=>some ([.ints k ((ns.drop off).take n)],[(id,none)])
  |_=>none
 |_=>none
def toD(hp:Nat->Option lO):A->Option D
 | .v (.agg cs)=>some (.agg cs)
 | .v (.one (.s x))=>some (.s x)
 | .v (.one (.rows sz n f))=>some (.rows sz n f)
 | .v (.one (.buf id n))=>match hp id with
  |some ⟨_,.ints k ns⟩=>some (.s (.ints k ns))
  |some ⟨_,.cells cs⟩=>if n*(cs.length/n)=cs.length/\0<n then some (.rows (cs.length/n) n fun i=>(cs.drop (i*(cs.length/n))).take (cs.length/n))else none
  |none=>none
 | .v (.one (.view id off n))=>match hp id with
  |some ⟨_,.ints k ns⟩=>some (.s (.ints k ((ns.drop off).take n)))
  |_=>none
 |_=>none
def setAt(cs:List S)(off:Nat)(new:List S):List S:=cs.take off ++ (new ++ cs.drop (off+new.length))
def fillK{R:Type}(hp:Nat->Option lO)(place:Nat->Option (Nat×Nat))(ev:Operand->A):List (Nat×Operand)->List S->List (Nat×Option lO)->(List S->List (Nat×Option lO)->Option R)->Option R
 | [],cs,aPH,K=>K cs aPH
 | (i,x) :: rest,cs,aPH,K =>
  match place i,cellsOf hp (ev x)with
  |some (off,size),some (new,u)=>if new.length=size/\off+new.length<=cs.length then fillK hp place ev rest (setAt cs off new) (aPH ++ u) K else none
  |_,_=>none
def partOf(ti:TI)(cs:List S)(off:Nat):Option V :=
 if _g:ti.kind.isAgg=true then(if _h:off+ti.size<=cs.length then some (.agg ((cs.drop off).take ti.size))else none)
 else match cs[off]? with
  |some c=>some (.one (.s c))
  |none=>none
def allInts(k:IntKind):List S->Option (List Int)
 | []=>some []
 | .sc (.int k' n) :: r=>if _h:k=k' then(allInts k r).map (n :: ·)else none
 |_ :: _=>none
def intsOf(hp:Nat->Option lO)(k:IntKind):A->Option (List Int)
 | .v (.one (.s (.ints k' ns)))=>if _h:k=k' then some ns else none
 | .v (.one (.s (.sc (.slice none 0 0))))=>some []
 | .v (.one (.buf id _))=>match hp id with
  |some ⟨_,.ints k' ns⟩=>if _h:k=k' then some ns else none
  |_=>none
 | .v (.one (.view id off n))=>match hp id with
  |some ⟨_,.ints k' ns⟩=>if _h:k=k' then some ((ns.drop off).take n)else none
  |_=>none
 |_=>none
def room:Int:=8796093022208
def takeIn(keep:Bool)(id:Nat):D->V×List (Nat×Option lO)
 | .s x=>(.one (.s x),[])
 | .rows sz n f=>(.one (.rows sz n f),[])
 | .agg cs=>(.agg cs,[])
 | .own e k ns=>bif keep then(.one (.buf id ns.length),[(id,some ⟨e,.ints k ns⟩)])else(.one (.s (.ints k ns)),[])
 | .io _ _ _ _ _=>(.one (.s .bot),[])
 | .back i off n=>(.one (.view i off n),[])
def takeAll(keep:Bool)(id:Nat):List D->List V×List (Nat×Option lO)
 | []=>([],[])
 |d :: r=>((takeIn keep id d).1 :: (takeAll keep (id+1) r).1,(takeIn keep id d).2 ++ (takeAll keep (id+1) r).2)
def Ki:S->Bool
 | .ints _ _=>true
 | .bot=>true
 | .sc (.slice (some _) _ _)=>true
 |_=>false
def shares:D->Bool
 | .s x=>Ki x
 | .rows _ _ _=>true
 | .agg cs=>cs.any Ki
 | .own _ _ _=>false
 | .io _ _ _ _ _=>true
 | .back _ _ _=>false
structure Env where
 T:TypeId->Option TI
 C:FuncId->List D->Option (Prop×List D)
 ext:FuncId->List Value->Option (Prop×List Value)
 glob:Nat->Option (IntKind×List Int)
 nt:Nat
 own:List Nat
 keep:Nat->List Nat
 roll:Nat->Option Nat
 cut:Nat->Option (List Nat)
 n0:Nat:=0
 io:List Nat:=[]
 ioF:FuncId->List Nat:=fun _=>[]
 wide:Option IntKind:=none
 short:Bool:=false
def wideS(w:Option IntKind)(v:Value):S:=match w with
 |none=>.sc v
 |some k=>match v with
  | .slice none 0 0=>.ints k []
  |v=>.sc v
def evA(E:Env)(fr:Nat->A):Operand->A
 | .tmp t=>fr t
 | .const v=>if _h:v.oneCell'=true then Dh v else .any
 | .global g=>match E.glob g with
  |some (k,ns)=>.v (.one (.Uy k ns))
  |none=>.any
 | .func f=>Dh (.func (.func f) #[] #[])
def funOf:A->Option FuncId
 | .v (.one (.s (.sc (.func (.func f) ⟨[]⟩ ⟨[]⟩))))=>some f
 |_=>none
abbrev sU:=List (Nat×Option lO)
def bndA(d:Int):Option A->Option Int
 |none=>some d
 |some (.v (.one (.s (.sc (.int _ n)))))=>some n
 |_=>none
def sliceK{R:Type}(len:Nat)(lo hi mx:Option A)(K:Nat->Nat->Option R):Option R :=
 match bndA 0 lo,bndA len hi,mx with
 |some l,some h,none=>if 0<=l/\l<=h/\h<=len then K l.toNat h.toNat else none
 |some l,some h,some mx=>match hi,bndA len (some mx)with
  |some _,some m=>if 0<=l/\l<=h/\h<=m/\m<=len then K l.toNat h.toNat else none
  |_,_=>none
 |_,_,_=>none
abbrev aC{R:Type}(b:Bool)(x y:Option R):Option R:=bif b then x else y
def splitN{R:Type}(n:Int):Nat->Nat->(Nat->Option R)->Option R
 |0,_,_=>none
 |m+1,j,K=>aC (decide (n=(j:Int))) (K j) (splitN n m (j+1) K)
def idxK{R:Type}(hp:Nat->Option lO)(t:TI)(sQ:Nat)(x:A)(n:Int)(K:A->Option R):Option R :=
 match x with
 | .v (.one (.s (.ints k ns)))=>if sQ=1 then(if 0<=n/\n<(ns.length:Int)then K (.v (.one (.Qj [.sc (.int k (ns.getD n.toNat 0))])))else none)else none
 | .v (.one (.buf id m))=>match hp id with
  |some ⟨_,.ints _ _⟩=>if sQ=1 then(if 0<=n/\n<(m:Int)then K (.v (.one (.Ts id n.toNat)))else none)else none
  |some ⟨_,.cells _⟩=>if 0<=n/\n<(m:Int)then K (.v (.one (.ptr id (n.toNat*sQ))))else none
  |none=>none
 | .v (.one (.view id off m))=>match hp id with
  |some ⟨_,.ints _ _⟩=>if sQ=1 then(if 0<=n/\n<(m:Int)then K (.v (.one (.Ts id (off+n.toNat))))else none)else none
  |_=>none
 | .v (.one (.rows sz m f))=>if sz=sQ then(if 0<=n/\n<(m:Int)then K (.v (.one (.Qj (f n.toNat))))else none)else none
 | .v (.one (.ptr id off))=>match t.kind with
  | .arr len _ _=>bif bYQ len 8 then splitN n len 0 (fun j=>K (.v (.one (.ptr id (off+j*sQ)))))else if 0<=n/\n<(len:Int)then K (.v (.one (.ptr id (off+n.toNat*sQ))))else none
  |_=>none
 | .v (.one (.Uy k ns))=>match t.kind with
  | .arr len _ _=>if ns.length=len/\sQ=1 then(if 0<=n/\n<(len:Int)then K (.v (.one (.Qj [.sc (.int k (ns.getD n.toNat 0))])))else none)else none
  |_=>none
 |_=>none
def Tt{R:Type}(sh:Bool)(hp:Nat->Option lO)(t:TI)(sQ:Nat)(x:A)(n:Int)(K:A->Option R):Option R:=match sh,x with
 |true,.v (.one (.buf id m))=>match hp id with
  |some ⟨_,.cells cs⟩=>splitN n (cs.length/sQ) 0 fun j=>idxK hp t sQ (.v (.one (.buf id m))) (j:Int) K
  |_=>idxK hp t sQ (.v (.one (.buf id m))) n K
 |_,x=>idxK hp t sQ x n K
def intArg:A->Option (IntKind×Int)
 | .v (.one (.s (.sc (.int k n))))=>some (k,n)
 |_=>none
def foldMM(op:BinOp)(k:IntKind):Int->List A->Option Int
 |n,[]=>some n
 |n,.v (.one (.s (.sc (.int k' m)))) :: r=>if _h:k=k' then foldMM op k (match op with | .gtr=>if m>n then m else n |_=>if m<n then m else n) r else none
 |_,_=>none
def lenA:A->Option Nat
 | .v (.one (.s (.ints _ ns)))=>some ns.length
 | .v (.one (.s (.sc (.slice none 0 0))))=>some 0
 | .v (.one (.buf _ n))=>some n
 | .v (.one (.view _ _ n))=>some n
 | .v (.one (.rows _ n _))=>some n
 |_=>none
def argVals:List A->Option (List Value)
 | []=>some []
 | .v (.one (.s (.sc v))) :: r=>(argVals r).map (v :: ·)
 |_ :: _=>none
def Je(s:ByteArray)(n:Int):Int:=match s[n.toNat]? with
 |some b=>b.toNat
 |none=>0
def bCN:List Value->A
 | [v]=>Dh v
 |vs=>.Pm (vs.map fun v=>.one (.s (.sc v)))
def keepOf(E:Env)(o:Oper):Bool:=match o.dst with
 |some d=>E.own.contains d
 |none=>false
open Classical in
def aN {R:Type} (g:Prop) (a:Option R):Option R:=if g then a else none
def aB{α R:Type}(x:α)(k:α->Option R):Option R:=k x
theorem aE{α R:Type}(x:α)(k:α->Option R):aB x k=k x:=rfl
def shS{R:Type}(s:S)(K:S->Option R):Option R:=match s with
 | .sc (.int k n)=>aB n fun n=>K (.sc (.int k n))
 | .sc (.bool b)=>aB b fun b=>K (.sc (.bool b))
 | .sc (.float k b)=>aB b fun b=>K (.sc (.float k b))
 | .ints k ns=>aB ns fun ns=>K (.ints k ns)
 |s=>K s
def shCs{R:Type}:List S->(List S->Option R)->Option R
 | [],K=>K []
 |s :: r,K=>shS s fun s=>shCs r fun r=>K (s :: r)
def shD{R:Type}(d:D)(K:D->Option R):Option R:=match d with
 | .s x=>shS x fun x=>K (.s x)
 | .agg cs=>shCs cs fun cs=>K (.agg cs)
 | .own e k ns=>aB ns fun ns=>K (.own e k ns)
 | .io e k ns off n=>aB ns fun ns=>K (.io e k ns off n)
 |d=>K d
def shDs{R:Type}:List D->(List D->Option R)->Option R
 | [],K=>K []
 |d :: r,K=>shD d fun d=>shDs r fun r=>K (d :: r)
theorem aKG{R:Type}(s:S)(K:S->Option R):shS s K=K s:=by
 unfold shS;split <;> rfl
theorem aDT{R:Type}:∀(cs:List S) (K:List S->Option R),shCs cs K=K cs
 | [],_=>rfl
 |s :: r,K=>by unfold shCs;rw[aKG,aDT r]
theorem aWM{R:Type}(d:D)(K:D->Option R):shD d K=K d:=by
 unfold shD;split
 ·exact aKG _ _
 ·exact aDT _ _
 ·rfl
 ·rfl
 ·rfl
theorem Fv{R:Type}:∀(ds:List D) (K:List D->Option R),shDs ds K=K ds
 | [],_=>rfl
 |d :: r,K=>by unfold shDs;rw[aWM,Fv r]
def Qk(xs ys:List Nat):Bool:=xs.all fun x=>!(ys.elem x)
def nodup:List Nat->Bool
 | []=>true
 |x :: r=>!(r.elem x)&&nodup r
def toIO(hp:Nat->Option lO):A->Option (Nat×D)
 | .v (.one (.buf id n))=>match hp id with
  |some ⟨e,.ints k ns⟩=>some (id,.io e k ns 0 n)
  |_=>none
 | .v (.one (.view id off n))=>match hp id with
  |some ⟨e,.ints k ns⟩=>some (id,.io e k ns off n)
  |_=>none
 |_=>none
def argsIO(ps:List Nat)(hp:Nat->Option lO):Nat->List A->Option (List (Nat×Nat)×List D)
 |_,[]=>some ([],[])
 |i,a :: r=>bif ps.elem i then(match toIO hp a with
   |some (id,d)=>match argsIO ps hp (i+1) r with
    |some (us,ds)=>some ((i,id) :: us,d :: ds)
    |none=>none
   |none=>none)
  else(match toD hp a with
   |some d=>match argsIO ps hp (i+1) r with
    |some (us,ds)=>some (us,d :: ds)
    |none=>none
   |none=>none)
def rL(ps:List Nat):Nat->List A->List Nat
 |_,[]=>[]
 |i,a :: r=>(bif ps.elem i then []else refs a) ++ rL ps (i+1) r
def leqN:List Nat->List Nat->Bool
 | [],[]=>true
 |a :: r,b :: s=>bYO a b&&leqN r s
 |_,_=>false
def backIO:List (Nat×Nat)->List D->Option sU
 | [],[]=>some []
 | (_,id) :: us,.io e k ns _ _ :: ds=>match backIO us ds with
  |some u=>some ((id,some ⟨e,.ints k ns⟩) :: u)
  |none=>none
 |_,_=>none
def idAt:List (Nat×Nat)->Nat->Nat
 | [],_=>0
 |q :: us,p=>bif bYO q.1 p then q.2 else idAt us p
def reBack(us:List (Nat×Nat)):D->D
 | .back p off n=>.back (idAt us p) off n
 |d=>d
def callIO{R:Type}(E:Env)(ps:List Nat)(id:Nat)(keep:Bool)(f:FuncId)(args:List A)(hp:Nat->Option lO)(K:A->sU->Option R):Option R :=
 match argsIO ps hp 0 args with
 |none=>none
 |some (us,ds)=>bif leqN (us.map (·.1)) ps&&(nodup (us.map (·.2))&&Qk (us.map (·.2)) (rL ps 0 args))then
  match E.C f ds with
  |none=>none
  |some (g,rs) =>
   aN g (shDs rs fun rs=>bif bYQ us.length rs.length&&bYQ rs.length 8&&!((rs.take (rs.length-us.length)).any shares)then
   match backIO us (rs.drop (rs.length-us.length))with
   |none=>none
   |some ub =>
    let r:=takeAll keep id ((rs.take (rs.length-us.length)).map (reBack us))
    match r.1 with
    | [x]=>K (.v x) (ub ++ r.2)
    |xs=>K (.Pm xs) (ub ++ r.2)
   else none)
  else none
def callK{R:Type}(E:Env)(id:Nat)(keep:Bool)(f:FuncId)(args:List A)(hp:Nat->Option lO)(K:A->sU->Option R):Option R :=
 match args.mapM (toD hp)with
 |none=>none
 |some ds=>match E.C f ds with
  |none=>none
  |some (g,rs) =>
   aN g (shDs rs fun rs=>bif bYQ rs.length 8 then
   let r:=takeAll keep id rs
   let aPH:=(bif rs.any shares then(args.flatMap refs).map fun i=>(i,none)else []) ++ r.2
   match r.1 with
   | [x]=>K (.v x) aPH
   |xs=>K (.Pm xs) aPH
   else none)
def rY{R:Type}(n0 id:Nat)(e:TypeId)(te:TI)(s x:A)(hp:Nat->Option lO)(K:A->sU->Option R):Option R:=match x with
 | .v (.one (.buf j m))=>match hp j with
  |some ⟨_,.cells new⟩=>if 0<m/\new.length=m*te.size then(match s with
   | .v (.one (.buf i n))=>match hp i with
    |some ⟨e',.cells cs⟩=>if e=e'/\n0<=i/\0<n/\cs.length=n*te.size/\(n+m)*te.bytes<=1073741824/\n+m<=1073741824 then K (.v (.one (.buf id (n+m)))) [(i,none),(id,some ⟨e,.cells (cs ++ new)⟩)]else none
    |_=>none
   | .v (.one (.s (.sc (.slice none 0 0))))=>if m*te.bytes<=1073741824/\m<=1073741824 then K (.v (.one (.buf id m))) [(id,some ⟨e,.cells new⟩)]else none
   |_=>none)else none
  |_=>none
 |_=>none
def builtinK{R:Type}(E:Env)(id:Nat)(b:Builtin)(args:List A)(yQ:List TypeId)(hp:Nat->Option lO)(K:A->sU->Option R):Option R :=
 match b,args,yQ with
 | .len,[x],[t]=>match E.T t,lenA x with
  |some ⟨_,_,_,.slice _⟩,some n=>K (Dh (.int .i64 n)) []
  |some ⟨_,_,_,.arr n _ _⟩,_=>K (Dh (.int .i64 n)) []
  |_,_=>none
 | .max,.v (.one (.s (.sc (.int k n)))) :: r,_=>match foldMM .gtr k n r with
  |some m=>K (Dh (.int k m)) []
  |none=>none
 | .min,.v (.one (.s (.sc (.int k n)))) :: r,_=>match foldMM .lss k n r with
  |some m=>K (Dh (.int k m)) []
  |none=>none
 | .append,[s,x],[t,t']=>if t=t' then
   match E.T t with
   |some ⟨_,_,_,.slice e⟩=>match E.T e with
    |some ⟨1,bytes,_,.int k⟩=>if bytes<=8 then
      match s,intsOf hp k x with
      | .v (.one (.buf i _)),some ms=>match hp i with
       |some ⟨e',.ints k' ns⟩=>bif bYY i E.n0 then none else if e=e'/\k=k' then(if 0<ms.length/\((ns.length+ms.length:Nat):Int)<=room then K (.v (.one (.buf id (ns.length+ms.length)))) [(i,none),(id,some ⟨e,.ints k (ns ++ ms)⟩)]else none)else none
       |_=>none
      | .v (.one (.s (.sc (.slice none 0 0)))),some ms=>if 0<ms.length/\(ms.length:Int)<=room then K (.v (.one (.buf id ms.length))) [(id,some ⟨e,.ints k ms⟩)]else none
      |_,_=>none
     else none
    |some te=>rY E.n0 id e te s x hp K
    |none=>none
   |_=>none
  else none
 | .copy,[d,s],[t,_] =>
   match E.T t with
   |some ⟨_,_,_,.slice e⟩=>match E.T e with
    |some ⟨1,_,_,.int k⟩ =>
      match d,intsOf hp k s with
      | .v (.one (.buf i n)),some ms=>match hp i with
       |some ⟨e',.ints k' ns⟩=>if k=k' then K (Dh (.int .i64 (min ms.length n:Nat))) [(i,some ⟨e',.ints k (ms.take n ++ ns.drop (min ms.length n))⟩)]else none
       |_=>none
      | .v (.one (.view i off n)),some ms=>match hp i with
       |some ⟨e',.ints k' ns⟩=>if k=k'/\off+n<=ns.length then K (Dh (.int .i64 (min ms.length n:Nat))) [(i,some ⟨e',.ints k (ns.take off ++ (ms.take n ++ ns.drop (off+min ms.length n)))⟩)]else none
       |_=>none
      |_,_=>none
    |_=>none
   |_=>none
 |_,_,_=>none
def Xj:List Value->Option (List IntKind)
 | []=>some []
 | .int k _ :: r=>(Xj r).map (k :: ·)
 |_=>none
def yY(ti:TI):Option (List IntKind):=match ti.kind with
 | .struct fs=>if(fs.all fun f=>bYO f.2.1 1&&!f.2.2)=true then Xj ti.zero else none
 |_=>none
def eqInts:List IntKind->List S->List S->Option Bool
 | [],[],[]=>some true
 |k :: ks,.sc (.int k1 a) :: r,.sc (.int k2 b) :: r'=>if k1=k/\k2=k then(eqInts ks r r').map fun q=>(a==b)&&q else none
 |_,_,_=>none
def eqAgg(t:Option TI)(cs ds:List S):Option Bool:=match t with
 |some ti=>match yY ti with
  |some ks=>eqInts ks cs ds
  |none=>none
 |none=>none
def aZG:List S->Option IntKind
 | .sc (.int k _) :: _=>some k
 |_=>none
def pickC(len m:Nat)(cs:List S):Option S:=match aZG cs with
 |some k=>match allInts k cs with
  |some ns=>bif bYO ns.length len then some (.sc (.int k (ns.getD m 0)))else cs[m]?
  |none=>cs[m]?
 |none=>cs[m]?
def aXL(len sQ n:Nat)(cs:List S):Option S:=bif bYO sQ 1 then pickC len n cs else cs[n*sQ]?
theorem Zd{k:IntKind}{cs:List S}:∀{ns:List Int},allInts k cs=some ns->∀m,m<ns.length->cs[m]?=some (.sc (.int k (ns.getD m 0))):=by
 induction cs with
 |nil=>intro ns h m hm;cases h;simp at hm
 |cons c r ih =>
  intro ns h m hm;unfold allInts at h;split at h
  ·rename_i heq;cases heq
  ·rename_i k' n r' heq;cases heq;split at h
   ·rename_i hk;subst hk;obtain⟨rs,hr,rfl⟩:=Option.map_eq_some_iff.1 h;cases m with
    |zero=>rfl
    |succ m=>simpa using ih hr m (by simpa using hm)
   ·cases h
  ·cases h
theorem aRS{len sQ:Nat}{n:Int}(cs:List S)(h:0<=n/\n<(len:Int)):aXL len sQ n.toNat cs=cs[n.toNat*sQ]?:=by
 unfold aXL;cases he:bYO sQ 1 with
 |false=>rfl
 |true =>
  have:=bZB he;subst this;rw[cond_true,bYX];unfold pickC;split
  ·rename_i k _;split
   ·rename_i ns bBF;cases hl:bYO ns.length len with
    |false=>rfl
    |true =>
     have:=bZB hl;rw[cond_true,Zd bBF n.toNat (by omega)]
   ·rfl
  ·rfl
def effK{R:Type}(E:Env)(id:Nat)(o:Oper)(ev:Operand->A)(hp:Nat->Option lO)(K:A->sU->Option R):Option R :=
 match o.op with
 | .move x=>K (ev x) []
 | .assign x=>K (ev x) []
 | .pick c a b=>match ev c with
  | .v (.one (.s (.sc (.bool t))))=>match ev a,ev b with
   | .v (.one (.s (.sc (.bool p)))),.v (.one (.s (.sc (.bool q))))=>K (Dh (.bool (bif t then p else q))) []
   |x,y=>bif t then K x []else K y []
  |_=>none
 | .alloc e=>match E.T e with
  |some ti=>K (.v (.one (.ptr id 0))) [(id,some ⟨e,.cells (ti.zero.map (wideS E.wide))⟩)]
  |none=>none
 | .box e x=>match E.T e,cellsOf hp (ev x)with
  |some ti,some (cs,u)=>if cs.length=ti.size then K (.v (.one (.ptr id 0))) (u ++ [(id,some ⟨e,.cells cs⟩)])else none
  |_,_=>none
 | .build t parts=>match E.T t with
  |some ⟨_,_,zero,.struct fs⟩=>fillK hp (fun i=>(fs[i]?).map fun f=>(f.1,f.2.1)) ev parts.toList (zero.map .sc) [] fun cs u=>K (.v (.agg cs)) u
  |some ⟨_,_,zero,.arr _ sQ _⟩=>fillK hp (fun i=>some (i*sQ,sQ)) ev parts.toList (zero.map .sc) [] fun cs u=>K (.v (.agg cs)) u
  |_=>none
 | .buildSlice t len parts=>match E.T t with
  |some ⟨_,_,_,.slice e⟩=>match E.T e with
   |some ⟨size,_,zero,kind⟩ =>
    if len*size<=16777216/\0<size then
    fillK hp (fun i=>some (i*size,size)) ev parts.toList ((bZX (len*size)).map fun i=>S.sc (zero.getD (i%size) undef)) [] fun cs u =>
     match kind,size with
     | .int k,1=>match allInts k cs with
      |some ns=>K (.v (.one (.buf id len))) (u ++ [(id,some ⟨e,.ints k ns⟩)])
      |none=>none
     |_,_=>K (.v (.one (.buf id len))) (u ++ [(id,some ⟨e,.cells cs⟩)])
    else none
   |none=>none
  |_=>none
 | .load t x=>match E.T t with
  |some ti=>match ev x with
   | .v (.one (.ptr i off))=>match hp i with
    |some ⟨_,.cells cs⟩=>match partOf ti cs off with
     |some v=>K (.v v) []
     |none=>none
    |_=>none
   | .v (.one (.Ts i j))=>match hp i,ti.kind.isAgg with
    |some ⟨_,.ints k ns⟩,false=>K (Dh (.int k (ns.getD j 0))) []
    |_,_=>none
   | .v (.one (.Qj cs))=>match partOf ti cs 0 with
    |some v=>K (.v v) []
    |none=>none
   |_=>none
  |none=>none
 | .store t x y=>match E.T t with
  |some ti=>match ev x with
   | .v (.one (.ptr i off))=>match hp i,cellsOf hp (ev y)with
    |some ⟨e,.cells cs⟩,some (new,u)=>if new.length=ti.size/\off+new.length<=cs.length/\(u.all fun p=>p.1 !=i)=true then K .any (u ++ [(i,some ⟨e,.cells (setAt cs off new)⟩)])else none
    |_,_=>none
   | .v (.one (.Ts i j))=>match hp i,ev y with
    |some ⟨e,.ints k ns⟩,.v (.one (.s (.sc (.int k' n))))=>if k=k'/\ti.size=1 then K .any [(i,some ⟨e,.ints k (ns.set j n)⟩)]else none
    |_,_=>none
   |_=>none
  |none=>none
 | .binOp op t x y _=>match ev x,ev y with
  | .v (.one (.s (.sc a))),.v (.one (.s (.sc b)))=>bif boolT (E.T t) a then binK op a b fun r=>K (Dh r) []else none
  | .v (.agg cs),.v (.agg ds)=>match eqAgg (E.T t) cs ds with
   |some b=>match op with
    | .eql=>K (Dh (.bool b)) []
    | .neq=>K (Dh (.bool (!b))) []
    |_=>none
   |none=>none
  |_,_=>none
 | .unOp op _ x=>match ev x with
  | .v (.one (.s (.sc a)))=>unK op a fun r=>K (Dh r) []
  |_=>none
 | .convert s d x=>match E.T s,E.T d,ev x with
  |some _,some ti,.v (.one (.s (.sc a)))=>convK ti.kind a fun r=>K (Dh r) []
  |_,_,_=>none
 | .makeSlice t l c=>match E.T t,intArg (ev l),intArg (ev c)with
  |some ⟨_,_,_,.slice e⟩,some (_,a),some (_,b)=>match E.T e with
   |some ⟨1,bytes,[.int k0 z0],.int k⟩=>if bytes<=8/\0<bytes/\k0=k/\z0=0 then
     (if 0<=a/\a<=b/\b<=room then K (.v (.one (.buf id a.toNat))) [(id,some ⟨e,.ints k (cAQ a.toNat 0)⟩)]else none)else none
   |_=>none
  |_,_,_=>none
 | .slice t x lo hi mx=>match E.T t with
  |some ⟨_,_,_,.slice e⟩=>match E.T e with
   |some ⟨1,_,_,.int k⟩=>match ev x with
    | .v (.one (.s (.ints k' ns)))=>if k=k' then sliceK ns.length (lo.map ev) (hi.map ev) (mx.map ev) fun l h=>K (.v (.one (.s (.ints k ((ns.take h).drop l))))) []else none
    | .v (.one (.s (.sc (.slice none 0 0))))=>sliceK 0 (lo.map ev) (hi.map ev) (mx.map ev) fun _ _=>K (.v (.one (.s (.ints k [])))) []
    | .v (.one (.buf i n))=>sliceK n (lo.map ev) (hi.map ev) (mx.map ev) fun l h=>K (.v (.one (.view i l (h-l)))) []
    | .v (.one (.view i off n))=>sliceK n (lo.map ev) (hi.map ev) (mx.map ev) fun l h=>K (.v (.one (.view i (off+l) (h-l)))) []
    |_=>none
   |some te=>match ev x with
    | .v (.one (.rows sz n f))=>if sz=te.size then sliceK n (lo.map ev) (hi.map ev) (mx.map ev) fun l h=>K (.v (.one (.rows sz (h-l) fun i=>f (l+i)))) []else none
    |_=>none
   |none=>none
  |_=>none
 | .fieldAddr t x f=>match E.T t with
  |some ⟨_,_,_,.struct fs⟩=>match fs[f]?,ev x with
   |some (off,size,_),.v (.one (.ptr i o))=>if 0<size then K (.v (.one (.ptr i (o+off)))) []else none
   |some (off,size,_),.v (.one (.Qj cs))=>if 0<size then K (.v (.one (.Qj (cs.drop off)))) []else none
   |_,_=>none
  |_=>none
 | .field t x f=>match E.T t with
  |some ⟨_,_,_,.struct fs⟩=>match fs[f]?,ev x with
   |some (off,size,g),.v (.agg cs)=>match (bif g then(if _h:off+size<=cs.length then some (V.agg ((cs.drop off).take size))else none)else(cs[off]?).map fun c=>V.one (.s c))with
    |some v=>K (.v v) []
    |none=>none
   |_,_=>none
  |_=>none
 | .indexAddr t x i=>match E.T t,intArg (ev i)with
  |some ti,some (_,n)=>match ti.kind with
   | .slice e=>match E.T e with
    |some te=>match ev x with
     | .v (.one (.ptr _ _))=>none
     | .v (.one (.Uy _ _))=>none
     |xa=>Tt E.short hp ti te.size xa n fun a=>K a []
    |none=>none
   | .arr _ sQ _=>match ev x with
    | .v (.one (.ptr i off))=>idxK hp ti sQ (.v (.one (.ptr i off))) n fun a=>K a []
    | .v (.one (.Uy k ns))=>idxK hp ti sQ (.v (.one (.Uy k ns))) n fun a=>K a []
    |_=>none
   |_=>none
  |_,_=>none
 | .index t x i=>match E.T t,ev x,intArg (ev i)with
  |some ⟨_,_,_,.arr len sQ g⟩,.v (.agg cs),some (_,n)=>if 0<=n/\n<len then
    match (bif g then(if _h:n.toNat*sQ+sQ<=cs.length then some (V.agg ((cs.drop (n.toNat*sQ)).take sQ))else none)else(aXL len sQ n.toNat cs).map fun c=>V.one (.s c))with
    |some v=>K (.v v) []
    |none=>none
   else none
  |some ⟨_,_,_,.str⟩,.v (.one (.s (.sc (.string s)))),some (_,n)=>if 0<=n/\n<(s.size:Int)then K (Dh (.int .u8 (Je s n))) []else none
  |_,_,_=>none
 | .extract x i=>match ev x with
  | .Pm xs=>match xs[i]? with
   |some v=>K (.v v) []
   |none=>none
  |_=>none
 | .call ⟨.value fo,args,_⟩=>match funOf (ev fo)with
  |some f=>match (argVals (args.toList.map ev)).bind (E.ext f)with
   |some (g,vs)=>aN g (K (bCN vs) [])
   |none=>match E.ioF f with
    | []=>callK E id (keepOf E o) f (args.toList.map ev) hp K
    |p :: ps=>callIO E (p :: ps) id (keepOf E o) f (args.toList.map ev) hp K
  |none=>none
 | .call ⟨.builtin b,args,yQ⟩=>builtinK E id b (args.toList.map ev) yQ.toList hp K
 |_=>none
def applyUps:sU->(Nat->Option lO)->Nat->Option lO
 | [],hp=>hp
 | (i,b) :: r,hp=>applyUps r (Co hp i b)
def Ei(o:Oper)(a:A)(fr:Nat->A):Nat->A :=
 match o.dst with
 |some d=>Co fr d a
 |none=>fr
def after(o:Oper)(st:St)(a:A)(u:sU):St:=⟨Ei o a st.fr,applyUps u st.hp,st.n⟩
def tM(E:Env)(id:Nat)(o:Oper)(ev:Operand->A)(hp:Nat->Option lO):Option (A×sU):=effK E id o ev hp fun a u=>some (a,u)
structure Rec where
 i:Nat
 o:Oper
 aJG:List Nat
 aPH:List Nat
def uW(o:Oper)(ev:Operand->A)(u:sU):List Nat:=(o.op.operands.toList.flatMap fun x=>refs (ev x)) ++ u.map (·.1)
def befB(ops:Array Oper)(j:Nat):Nat->Oper->Bool
 |0,_=>false
 |n+1,o=>o.after.any fun e=>Region.binds .any e&&(e.on==j||(match ops[e.on]? with |some o'=>befB ops j n o' |none=>false))
def indep(ops:Array Oper)(r:Rec)(_i:Nat)(o:Oper)(aJG aPH:List Nat):Bool :=
 (o.after.any fun e=>Region.binds .any e&&e.on==r.i)||(r.o.apart ops o&&Qk r.aPH aJG&&Qk aPH r.aJG)||befB ops r.i 3 o
def kD(nt:Nat)(o:Oper):Bool:=match o.dst with
 |some d=>bYY d nt
 |none=>true
def zJ(i:Nat)(o:Oper):Bool:=o.after.all fun e=>!Region.binds .any e||bYY e.on i
def opsK{R:Type}(E:Env)(draw:Bool)(ops:Array Oper)(base:Nat):List Oper->Nat->List Rec->St->(St->Option R)->Option R
 | [],_,_,st,K=>K st
 |o :: rest,i,qG,st,K =>
  bif kD E.nt o&&(!draw||zJ i o)then
  match o.guard with
  |none=>effK E (base+8*i) o (evA E st.fr) st.hp fun a u =>
    let t:=uW o (evA E st.fr) u
    bif !draw||qG.all fun r=>indep ops r i o t (u.map (·.1))then opsK E draw ops base rest (i+1) (⟨i,o,t,u.map (·.1)⟩ :: qG) (after o st a u) K else none
  |some (j,want)=>match (ops[j]?).bind (·.dst)with
   |some d=>match st.fr d with
    | .v (.one (.s (.sc (.bool b)))) =>
     let go (lit:Bool):Option R :=
      let gM:St:=⟨Co st.fr d (Dh (.bool lit)),st.hp,st.n⟩
      bif lit==want then
       effK E (base+8*i) o (evA E gM.fr) gM.hp fun a u =>
        let t:=uW o (evA E gM.fr) u
        bif !draw||qG.all fun r=>indep ops r i o t (u.map (·.1))then opsK E draw ops base rest (i+1) (⟨i,o,t,u.map (·.1)⟩ :: qG) (after o gM a u) K else none
      else bif !draw||qG.all fun r=>indep ops r i o [] []then opsK E draw ops base rest (i+1) (⟨i,o,[],[]⟩ :: qG) (after o gM (.Pm []) []) K else none
     aC b (go true) (go false)
    | .Pm []=>bif !draw||qG.all fun r=>indep ops r i o [] []then opsK E draw ops base rest (i+1) (⟨i,o,[],[]⟩ :: qG) (after o st (.Pm []) []) K else none
    |_=>none
   |none=>none
  else none
inductive Ex where
 |normal
 |exit (id:Nat)
 |ret
abbrev KV:=A×Option lO
def aMN(st:St)(s:Nat):Option (Nat×A):=match st.fr s with
 | .v (.one (.buf i n))=>match st.hp i with
  |some ⟨_,.cells cs⟩=>if n*(cs.length/n)=cs.length/\0<n then some (i,.v (.one (.rows (cs.length/n) n fun j=>(cs.drop (j*(cs.length/n))).take (cs.length/n))))else none
  |_=>none
 |_=>none
def canonGo(n0:Nat)(st:St):List Nat->Nat->List Nat->List KV
 | [],_,_=>[]
 |s :: r,p,seen=>bif bYQ 1000000 s then(match aMN st (s%1000000)with
   |some (i,a)=>bif seen.elem i then(.any,none) :: canonGo n0 st r (p+1) seen else(a,none) :: canonGo n0 st r (p+1) (i :: seen)
   |none=>(.any,none) :: canonGo n0 st r (p+1) seen)else
  match st.fr (s%1000000)with
  | .v (.one (.buf i n))=>bif seen.elem i then(.any,none) :: canonGo n0 st r (p+1) seen else(.v (.one (.buf p n)),st.hp i) :: canonGo n0 st r (p+1) (i :: seen)
  | .v (.one (.ptr i 0))=>bif seen.elem i then(.any,none) :: canonGo n0 st r (p+1) seen else(.v (.one (.ptr p 0)),st.hp i) :: canonGo n0 st r (p+1) (i :: seen)
  | .v (.one (.ptr _ _))=>(.any,none) :: canonGo n0 st r (p+1) seen
  | .v (.one (.Ts _ _))=>(.any,none) :: canonGo n0 st r (p+1) seen
  | .v (.one (.view i off n))=>bif bYY i n0 then(.v (.one (.view i off n)),none) :: canonGo n0 st r (p+1) seen else(.any,none) :: canonGo n0 st r (p+1) seen
  | .Pm _=>(.any,none) :: canonGo n0 st r (p+1) seen
  |a=>(a,none) :: canonGo n0 st r (p+1) seen
def canonIO(st:St):Nat->Nat->List KV
 |0,_=>[]
 |n+1,i=>(.any,st.hp i) :: canonIO st n (i+1)
def below:Nat->List Nat
 |0=>[]
 |n+1=>n :: below n
def canon(n0:Nat)(keep:List Nat)(st:St):List KV:=canonIO st n0 0 ++ canonGo n0 st keep n0 (below n0)
def slotGo(t:Nat):List Nat->List KV->A
 |s :: r,kv :: l=>bif bYO t (s%1000000)then kv.1 else slotGo t r l
 |_,_=>.any
def blkGo:Nat->List KV->Option lO
 |_,[]=>none
 |0,kv :: _=>kv.2
 |n+1,_ :: l=>blkGo n l
def mk(n0:Nat)(keep:List Nat)(l:List KV):St:=⟨fun t=>slotGo t keep (l.drop n0),fun i=>blkGo i l,n0+keep.length⟩
def keyOf:Code->Nat
 | .region id _ _=>id
 | .seq a _=>keyOf a
 | .block _ c=>keyOf c
 | .loop c=>keyOf c
 | .scope c=>keyOf c
 |_=>0
section
variable {α R:Type}
def iter(G:(α->Option R)->α->Option R):Nat->α->Option R
 |0=>fun _=>none
 |n+1=>G (iter G n)
open Classical in
def fix (G:(α->Option R)->α->Option R) (a:α):Option R :=
 if h:∃r,∃n,iter G n a=some r then some (Classical.choose h)else none
end
abbrev roundOf{R:Type}(ec:Code->St->(Ex->St->Option R)->Option R)(n0:Nat)(keep:List Nat)(c:Code)(K:Ex->St->Option R)(rec:List KV->Option R)(l:List KV):Option R :=
 ec c (mk n0 keep l) fun ex gM=>match ex with
  | .normal=>rec (canon n0 keep gM)
  | .exit i=>K (.exit i) gM
  | .ret=>K .ret gM
def Dc{R:Type}(_key:Nat)(l:List KV)(k:List KV->Option R):Option R:=k l
def evalCode{R:Type}(E:Env):Code->St->(Ex->St->Option R)->Option R
 | .skip,st,K=>K .normal st
 | .label _,st,K=>K .normal st
 | .region _ ops draw,st,K=>opsK E draw ops st.n ops.toList 0 [] st fun gM=>K .normal ⟨gM.fr,gM.hp,st.n+8*ops.size⟩
 | .seq a b,st,K=>evalCode E a st fun ex gM=>match ex with
  | .normal=>match E.cut (keyOf b)with
   |some keep=>Dc (keyOf b) (canon E.n0 keep gM) fun l=>evalCode E b (mk E.n0 keep l) K
   |none=>evalCode E b gM K
  | .exit i=>K (.exit i) gM
  | .ret=>K .ret gM
 | .cond c a b,st,K=>match c with
  | .tmp s=>match st.fr s with
   | .v (.one (.s (.sc (.bool t))))=>aC t (evalCode E a ⟨Co st.fr s (Dh (.bool true)),st.hp,st.n⟩ K) (evalCode E b ⟨Co st.fr s (Dh (.bool false)),st.hp,st.n⟩ K)
   |_=>none
  | .const (.bool t)=>aC t (evalCode E a st K) (evalCode E b st K)
  |_=>none
 | .block id c,st,K=>evalCode E c st fun ex gM=>match ex with
  | .normal=>K .normal gM
  | .exit i=>bif bYO i id then K .normal gM else K (.exit i) gM
  | .ret=>K .ret gM
 | .exit id,st,K=>K (.exit id) st
 | .ret,st,K=>K .ret st
 | .loop c,st,K=>match E.roll (keyOf c)with
  |some n=>iter (fun rec l=>evalCode E c (mk E.n0 (E.keep (keyOf c)) l) fun ex gM=>match ex with
    | .normal=>rec (canon E.n0 (E.keep (keyOf c)) gM)
    | .exit i=>K (.exit i) gM
    | .ret=>K .ret gM) n (canon E.n0 (E.keep (keyOf c)) st)
  |none=>fix (fun rec l=>evalCode E c (mk E.n0 (E.keep (keyOf c)) l) fun ex gM=>match ex with
    | .normal=>rec (canon E.n0 (E.keep (keyOf c)) gM)
    | .exit i=>K (.exit i) gM
    | .ret=>K .ret gM) (canon E.n0 (E.keep (keyOf c)) st)
 | .scope c,st,K=>evalCode E c st K
 |_,_,_=>none
def resD(E:Env)(st:St):ResultVar->Option D
 | .tmp t=>match st.fr t with
  | .v (.agg cs)=>some (.agg cs)
  | .v (.one (.s x))=>some (.s x)
  | .v (.one (.buf i _))=>bif bYY i E.n0 then none else match st.hp i with
   |some ⟨e,.ints k ns⟩=>some (.own e k ns)
   |_=>none
  | .v (.one (.view i off n))=>bif E.io.elem i then some (.back i off n)else bif bYY i E.n0 then none else match st.hp i,off with
   |some ⟨e,.ints k ns⟩,0=>some (.own e k (ns.take n))
   |_,_=>none
  |_=>none
 | .cell t ty=>match st.fr t,E.T ty with
  | .v (.one (.ptr i off)),some ti=>match st.hp i with
   |some ⟨_,.cells cs⟩=>match partOf ti cs off with
    |some (.agg Ns)=>some (.agg Ns)
    |some (.one (.s x))=>some (.s x)
    |_=>none
   |_=>none
  |_,_=>none
def ownIds(st:St):List ResultVar->List Nat
 | []=>[]
 | .tmp t :: r=>(match st.fr t with | .v (.one (.buf i _))=>[i] | .v (.one (.view i _ _))=>[i] |_=>[]) ++ ownIds st r
 | .cell _ _ :: r=>ownIds st r
def bDD(st:St)(i:Nat):Option D:=match st.hp i with
 |some ⟨e,.ints k ns⟩=>some (.io e k ns 0 0)
 |_=>none
def tG(E:Env)(fn:Func)(ex:Ex)(st:St):Option (List D) :=
 match ex with
 | .exit _=>none
 |_=>bif nodup (ownIds st fn.results.toList)then(match E.io with
  | []=>fn.results.toList.mapM (resD E st)
  |p :: ps=>match fn.results.toList.mapM (resD E st),(p :: ps).mapM (bDD st)with
   |some rs,some is=>some (rs ++ is)
   |_,_=>none)else none
def bMS:D->A
 | .s x=>.v (.one (.s x))
 | .rows sz n f=>.v (.one (.rows sz n f))
 | .agg cs=>.v (.agg cs)
 | .own _ k ns=>.v (.one (.s (.ints k ns)))
 | .io _ _ _ _ _=>.any
 | .back _ _ _=>.any
def argAt(i:Nat):D->A
 | .io _ _ _ off n=>.v (.one (.view i off n))
 |d=>bMS d
def argFrI:Nat->List D->Nat->A
 |_,[],_=>.any
 |i,d :: _,0=>argAt i d
 |i,_ :: r,n+1=>argFrI (i+1) r n
abbrev Yz:List D->Nat->A:=argFrI 0
def argHp:Nat->List D->Nat->Option lO
 |_,[],_=>none
 |i,.io e k ns _ _ :: r,j=>bif bYO j i then some ⟨e,.ints k ns⟩else argHp (i+1) r j
 |i,_ :: r,j=>argHp (i+1) r j
def aG(E:Env)(fn:Func)(c:Code)(ds:List D):Option (List D) :=
 evalCode E c ⟨Yz ds,argHp 0 ds,E.n0⟩ (tG E fn)
def aAH{R:Type}(E:Env)(b:Code)(K:Ex->St->Option R)(ex:Ex)(gM:St):Option R:=match ex with
 | .normal=>match E.cut (keyOf b)with
  |some keep=>Dc (keyOf b) (canon E.n0 keep gM) fun l=>evalCode E b (mk E.n0 keep l) K
  |none=>evalCode E b gM K
 | .exit i=>K (.exit i) gM
 | .ret=>K .ret gM
def Nw{R:Type}(id:Nat)(K:Ex->St->Option R)(ex:Ex)(gM:St):Option R:=match ex with
 | .normal=>K .normal gM
 | .exit i=>bif bYO i id then K .normal gM else K (.exit i) gM
 | .ret=>K .ret gM
def Rh{R:Type}(E:Env)(c:Code)(K:Ex->St->Option R)(ex:Ex)(gM:St):Option R:=match ex with
 | .normal=>fix (fun rec l=>evalCode E c (mk E.n0 (E.keep (keyOf c)) l) fun ex gM=>match ex with
  | .normal=>rec (canon E.n0 (E.keep (keyOf c)) gM)
  | .exit i=>K (.exit i) gM
  | .ret=>K .ret gM) (canon E.n0 (E.keep (keyOf c)) gM)
 | .exit i=>K (.exit i) gM
 | .ret=>K .ret gM
def findLoop{R:Type}(E:Env)(key:Nat):Code->(Ex->St->Option R)->Option (Code×(Ex->St->Option R))
 | .seq a b,K=>(findLoop E key a (aAH E b K)).or (findLoop E key b K)
 | .cond _ a b,K=>(findLoop E key a K).or (findLoop E key b K)
 | .block id c,K=>findLoop E key c (Nw id K)
 | .loop c,K=>bif bYO (keyOf c) key then some (c,K)else findLoop E key c (Rh E c K)
 | .scope c,K=>findLoop E key c K
 |_,_=>none
def fU{R:Type}(E:Env)(key:Nat):Code->(Ex->St->Option R)->Option (Code×(Ex->St->Option R))
 | .seq a b,K=>bif bYO (keyOf b) key then some (b,K)else(fU E key a (aAH E b K)).or (fU E key b K)
 | .cond _ a b,K=>(fU E key a K).or (fU E key b K)
 | .block id c,K=>fU E key c (Nw id K)
 | .loop c,K=>fU E key c (Rh E c K)
 | .scope c,K=>fU E key c K
 |_,_=>none
end AI
namespace AI
open Go Go.RowKit
def rI(X:Nat->Prop)(w:World):S->Value->Prop
 | .sc u,v=>v=u/\u.oneCell'=true
 | .ints k ns,v=>∃A c,v=.slice A ns.length c/\ns.length<=c/\∀(i:Nat) (n:Int),ns[i]?=some n->∃b off,A=some ⟨b,off,none⟩/\b<w.heap.size/\¬X b/\w.cell? ⟨b,off+i,none⟩=some (.int k n)
 | .bot,v=>v.oneCell'=true
def jI(X:Nat->Prop)(w:World)(cs:List S)(vs:List Value):Prop :=
 cs.length=vs.length/\∀(i:Nat) (s:S) (u:Value),cs[i]?=some s->vs[i]?=some u->rI X w s u
def vM(X:Nat->Prop)(w:World)(b off:Nat)(cs:List S):Prop :=
 ∀(i:Nat) (s:S),cs[i]?=some s->b<w.heap.size/\¬X b/\∃u,w.cell? ⟨b,off+i,none⟩=some u/\rI X w s u
def nB(w:World)(g:Nat):Nat:=match w.heap[g]? with
 |some (.cells arr _ _)=>arr.size
 |_=>0
def xZ(k:IntKind)(ns:List Int):List S:=ns.map fun n=>.sc (.int k n)
def aHZ(ρ:Nat->Nat)(hp:Nat->Option lO)(X:Nat->Prop)(w:World):L->Value->Prop
 | .s x,v=>rI X w x v
 | .rows sz n f,v=>∃A c,v=.slice A n c/\n<=c/\∀i,i<n->(f i).length=sz/\∃b off,A=some ⟨b,off,none⟩/\vM X w b (off+i*sz) (f i)
 | .Qj cs,v=>∃b off,v=.pointer (some ⟨b,off,none⟩)/\vM X w b off cs
 | .Uy k ns,v=>∃b off,v=.pointer (some ⟨b,off,none⟩)/\vM X w b off (xZ k ns)
 | .ptr id off,v=>v=.pointer (some ⟨ρ id,off,none⟩)
 | .Ts id i,v=>v=.pointer (some ⟨ρ id,i,none⟩)/\∀blk k ns,hp id=some blk->blk.cont=.ints k ns->i<ns.length
 | .buf id n,v=>∃cap,v=.slice (some ⟨ρ id,0,none⟩) n cap/\n<=cap/\(∀blk k ns,hp id=some blk->blk.cont=.ints k ns->n=ns.length/\cap<=maxLen/\cap<=nB w (ρ id))/\∀blk cs,hp id=some blk->blk.cont=.cells cs->∃sz,cs.length=n*sz/\cap*sz<=nB w (ρ id)/\cap<=maxLen
 | .view id off n,v=>∃o' cap,v=.slice (some ⟨ρ id,o',none⟩) n cap/\n<=cap/\(0<n->o'=off)/\(off=0->o'=0)/\∀blk k ns,hp id=some blk->blk.cont=.ints k ns->off+n<=ns.length/\cap<=maxLen/\cap<=nB w (ρ id)
theorem xP{ρ:Nat->Nat}{hp:Nat->Option lO}{w:World}{id off n:Nat}{v:Value}(h:aHZ ρ hp (fun _=>False) w (.view id off n) v) :
  ∃A cap,v=.slice A n cap/\n<=cap/\(0<n->A=some ⟨ρ id,off,none⟩)/\∀blk k ns,hp id=some blk->blk.cont=.ints k ns->off+n<=ns.length:=by
 obtain⟨o',cap,hv,hle,h1,_,h2⟩:=h;exact⟨_,cap,hv,hle,fun hn=>by rw[h1 hn],fun blk k ns h3 h4=>(h2 blk k ns h3 h4).1⟩
def Hc(ρ:Nat->Nat)(hp:Nat->Option lO)(X:Nat->Prop)(w:World):V->Value->Prop
 | .one l,v=>aHZ ρ hp X w l v
 | .agg cs,v=>∃arr,v=.agg arr/\jI X w cs arr.toList
def zY(ρ:Nat->Nat)(hp:Nat->Option lO)(X:Nat->Prop)(w:World):A->Value->Prop
 | .v x,v=>Hc ρ hp X w x v
 | .Pm xs,v=>∃arr,v=.tuple arr/\xs.length=arr.size/\∀(i:Nat) (x:V) (u:Value),xs[i]?=some x->arr[i]?=some u->Hc ρ hp X w x u
 | .any,_=>True
def zX(X:Nat->Prop)(w:World):oH->Array Value->Prop
 | .ints k ns,arr=>ns.length<=arr.size/\∀(i:Nat) (n:Int),ns[i]?=some n->arr[i]?=some (Value.int k n)
 | .cells cs,arr=>cs.length<=arr.size/\∀(i:Nat) (s:S),cs[i]?=some s->∃u,arr[i]?=some u/\rI X w s u
def Hd(X:Nat->Prop)(w:World)(g:Nat)(b:lO):Prop:=∃arr,w.heap[g]?=some (.cells arr b.e (0,0))/\zX X w b.cont arr
def aQB(ρ:Nat->Nat)(hp:Nat->Option lO)(b:Nat):Prop:=∃id blk,hp id=some blk/\ρ id=b
def XO(X:Nat->Prop)(ρ:Nat->Nat)(hp:Nat->Option lO)(b:Nat):Prop:=X b\/aQB ρ hp b
def GlobOk(glob:Nat->Option (IntKind×List Int))(X:Nat->Prop)(w:World):Prop :=
 ∀g k ns,glob g=some (k,ns)->g<w.heap.size/\¬X g/\vM X w g 0 (xZ k ns)
structure Old where
 w:World
 M:Nat->Prop
 g:Nat->Nat
 bCR:∀b,M b->b<w.heap.size
def Old.Jx(o:Old)(b:Nat):Prop:=o.w.heap.size<=b\/o.M b
def Old.El(o:Old)(n0 id b:Nat):Prop:=o.w.heap.size<=b\/(id<n0/\o.M b)
theorem Old.El.Jx{o:Old}{n0 id b:Nat}(h:o.El n0 id b):o.Jx b:=h.imp (fun h=>h) And.right
theorem Old.El.new{o:Old}{n0 id b:Nat}(h:o.El n0 id b)(hn:n0<=id):o.w.heap.size<=b:=h.elim (fun h=>h) fun h=>absurd h.1 (by omega)
def Old.bare(w:World):Old:=⟨w,fun _=>False,id,fun _ h=>h.elim⟩
structure Kept(o:Old)(w w':World):Prop where
 os:w'.os=w.os
 tape:w'.tape=w.tape
 output:w'.output=w.output
 size:w.heap.size<=w'.heap.size
 block:∀b,¬o.Jx b->w'.heap[b]?=w.heap[b]?
 room:∀b,o.M b->nB w' b=nB w b
theorem yI{w w':World}{b:Nat}(h:w'.heap[b]?=w.heap[b]?):nB w' b=nB w b:=by unfold nB;rw[h]
theorem Kept.refl(o:Old)(w:World):Kept o w w:=⟨rfl,rfl,rfl,bYN _,fun _ _=>rfl,fun _ _=>rfl⟩
theorem Kept.trans{o:Old}{a b c:World}(h:Kept o a b)(k:Kept o b c):Kept o a c :=
 ⟨k.os.trans h.os,k.tape.trans h.tape,k.output.trans h.output,bZJ h.size k.size,fun i hi=>(k.block i hi).trans (h.block i hi),fun i hi=>(k.room i hi).trans (h.room i hi)⟩
theorem Old.Wy{o:Old}{b:Nat}(h:¬o.Jx b):b<o.w.heap.size:=by
 rcases bZC b o.w.heap.size with h1 |h1
 ·exact h1
 ·exact(h (.inl h1)).elim
theorem Kept.below{w w' bCI:World}(h:Kept (Old.bare w) w' bCI):Below w.heap.size w' bCI :=
 ⟨h.os,h.tape,h.output,h.size,fun k hk=>h.block k (fun hm=>by
  rcases hm with hm |hm
  ·exact absurd (show w.heap.size<=k from hm) (by omega)
  ·exact hm)⟩
structure jX(E:Env)(X:Nat->Prop)(w0:Old)(ρ:Nat->Nat)(al:Nat->Prop)(f:Nat->A)(hp:Nat->Option lO)(a:Act)(w:World):Prop where
 fr:∀t,zY ρ hp (XO X ρ hp) w (f t) (a.tmps.getD t undef)
 sz:a.tmps.size=E.nt
 nod:a.defers=[]
 blk:∀id b,hp id=some b->w0.El E.n0 id (ρ id)/\Hd (XO X ρ hp) w (ρ id) b
 inj:∀id Zo b b',hp id=some b->hp Zo=some b'->ρ id=ρ Zo->id=Zo
 alh:∀id b,hp id=some b->al id
 alr:∀t id,id∈refs (f t)->al id
 below:Kept w0 w0.w w
 x0:∀b,X b->¬w0.Jx b
 glob:GlobOk E.glob X w0.w
 mg:∀g p,E.glob g=some p->¬w0.M g
 al0:∀id,id<E.n0->al id
 pK:∀id,id<E.n0->ρ id=w0.g id
structure jB(X:Nat->Prop)(w:World)(X':Nat->Prop)(w':World):Prop where
 size:w.heap.size<=w'.heap.size
 keep:∀b,b<w.heap.size->¬X b->w'.heap[b]?=w.heap[b]?/\¬X' b
theorem jB.refl(X:Nat->Prop)(w:World):jB X w X w:=⟨bYN _,fun _ _ h=>⟨rfl,h⟩⟩
theorem jB.trans{X X' bQN:Nat->Prop}{w w' bCI:World}(h:jB X w X' w')(h':jB X' w' bQN bCI):jB X w bQN bCI :=
 ⟨bZJ h.size h'.size,fun b hb hx=>by
  obtain⟨e,Ag⟩:=h.keep b hb hx;obtain⟨e',bJJ⟩:=h'.keep b (bZN hb h.size) Ag;exact⟨e'.trans e,bJJ⟩⟩
section
variable {X X':Nat->Prop} {w w':World}
theorem jB.cell(h:jB X w X' w'){b off:Nat}(hb:b<w.heap.size)(hx:¬X b):w'.cell? ⟨b,off,none⟩=w.cell? ⟨b,off,none⟩ :=
 World.cell?_of_block (a:=⟨b,off,none⟩) (h.keep b hb hx).1
theorem rI.later(h:jB X w X' w'){s:S}{v:Value}(r:rI X w s v):rI X' w' s v:=by
 cases s with
 |sc u=>exact r
 |bot=>exact r
 |ints k ns =>
  obtain⟨A,c,hv,hle,hc⟩:=r;refine⟨A,c,hv,hle,fun i n hn=>?_⟩;obtain⟨b,off,hA,hb,hx,aME⟩:=hc i n hn;exact⟨b,off,hA,bZN hb h.size,(h.keep b hb hx).2,(h.cell hb hx).trans aME⟩
theorem rI.one{s:S}{v:Value}(r:rI X w s v):v.oneCell'=true:=by
 cases s with
 |sc u=>obtain⟨rfl,h⟩:=r;exact h
 |bot=>exact r
 |ints k ns=>obtain⟨A,c,rfl,_⟩:=r;rfl
theorem jI.later(h:jB X w X' w'){cs:List S}{vs:List Value}(r:jI X w cs vs):jI X' w' cs vs :=
 ⟨r.1,fun i s u hs hu=>(r.2 i s u hs hu).later h⟩
theorem vM.later(h:jB X w X' w'){b off:Nat}{cs:List S}(r:vM X w b off cs):vM X' w' b off cs:=by
 intro i s hs;obtain⟨hb,hx,u,hu,hr⟩:=r i s hs;exact⟨bZN hb h.size,(h.keep b hb hx).2,u,(h.cell hb hx).trans hu,hr.later h⟩
theorem zX.later(h:jB X w X' w'){c:oH}{arr:Array Value}(r:zX X w c arr):zX X' w' c arr:=by
 cases c with
 |ints k ns=>exact r
 |cells cs=>exact⟨r.1,fun i s hs=>let ⟨u,hu,hr⟩:=r.2 i s hs;⟨u,hu,hr.later h⟩⟩
end
def sameShape(b b':lO):Prop:=(∀k ns,b'.cont=.ints k ns->∃k' oR,b.cont=.ints k' oR/\oR.length=ns.length)/\∀cs,b'.cont=.cells cs->∃Ns,b.cont=.cells Ns/\Ns.length=cs.length
theorem sameShape.refl(b:lO):sameShape b b:=⟨fun k ns e=>⟨k,ns,e,rfl⟩,fun cs e=>⟨cs,e,rfl⟩⟩
section
variable {ρ ρ':Nat->Nat} {hp hp':Nat->Option lO} {X X':Nat->Prop} {w w':World} {al:Nat->Prop}
def xB(ρ ρ':Nat->Nat)(hp hp':Nat->Option lO)(w w':World)(al:Nat->Prop):Prop :=
 ∀id,al id->ρ' id=ρ id/\∀b',hp' id=some b'->∃b,hp id=some b/\sameShape b b'/\nB w' (ρ id)=nB w (ρ id)
theorem xB.refl(ρ:Nat->Nat)(hp:Nat->Option lO)(w:World)(al:Nat->Prop):xB ρ ρ hp hp w w al :=
 fun _ _=>⟨rfl,fun b h=>⟨b,h,sameShape.refl _,rfl⟩⟩
theorem aHZ.later(h:jB X w X' w')(hh:xB ρ ρ' hp hp' w w' al){l:L}{v:Value}(tW:∀id∈refsL l,al id)(r:aHZ ρ hp X w l v):aHZ ρ' hp' X' w' l v:=by
 cases l with
 |s x=>exact rI.later h r
 |rows sz n f =>
  obtain⟨A,c,hv,hle,hc⟩:=r;refine⟨A,c,hv,hle,fun i hi=>?_⟩;obtain⟨hl,b,off,hA,Xx⟩:=hc i hi;exact⟨hl,b,off,hA,Xx.later h⟩
 |Qj cs=>obtain⟨b,off,hv,hc⟩:=r;exact⟨b,off,hv,hc.later h⟩
 |Uy k ns=>obtain⟨b,off,hv,hc⟩:=r;exact⟨b,off,hv,hc.later h⟩
 |ptr id off =>
  have hr:v=.pointer (some ⟨ρ id,off,none⟩):=r;show v=.pointer (some ⟨ρ' id,off,none⟩);rw[(hh id (tW id (by simp[refsL]))).1];exact hr
 |Ts id i =>
  obtain⟨hv,hc⟩:=r;obtain⟨e,hb⟩:=hh id (tW id (by simp[refsL]));refine⟨by rw[e];exact hv,fun b' k ns h1 h2=>?_⟩;obtain⟨b,h3,h4,_⟩:=hb b' h1;obtain⟨k',oR,h5,h6⟩:=h4.1 k ns h2;have:=hc b k' oR h3 h5;omega
 |buf id n =>
  obtain⟨cap,hv,hle,hc,aVI⟩:=r;obtain⟨e,hb⟩:=hh id (tW id (by simp[refsL]));refine⟨cap,by rw[e];exact hv,hle,fun b' k ns h1 h2=>?_,fun b' cs h1 h2=>?_⟩
  ·obtain⟨b,h3,h4,h7⟩:=hb b' h1;obtain⟨k',oR,h5,h6⟩:=h4.1 k ns h2;have:=hc b k' oR h3 h5;rw[e,h7];exact⟨by omega,this.2⟩
  ·obtain⟨b,h3,h4,h7⟩:=hb b' h1;obtain⟨Ns,h5,h6⟩:=h4.2 cs h2;obtain⟨sz,h8,h9⟩:=aVI b Ns h3 h5;rw[e,h7];exact⟨sz,by omega,h9⟩
 |view id off n =>
  obtain⟨o',cap,hv,hle,Na,Ie,hc⟩:=r;obtain⟨e,hb⟩:=hh id (tW id (by simp[refsL]));refine⟨o',cap,by rw[e];exact hv,hle,Na,Ie,fun b' k ns h1 h2=>?_⟩;obtain⟨b,h3,h4,h7⟩:=hb b' h1;obtain⟨k',oR,h5,h6⟩:=h4.1 k ns h2;have:=hc b k' oR h3 h5;rw[e,h7];exact⟨by omega,this.2⟩
theorem Hc.later(h:jB X w X' w')(hh:xB ρ ρ' hp hp' w w' al){x:V}{v:Value}(tW:∀id∈refsV x,al id)(r:Hc ρ hp X w x v):Hc ρ' hp' X' w' x v:=by
 cases x with
 |one l=>exact aHZ.later h hh tW r
 |agg cs=>obtain⟨arr,hv,hr⟩:=r;exact⟨arr,hv,hr.later h⟩
theorem zY.later(h:jB X w X' w')(hh:xB ρ ρ' hp hp' w w' al){x:A}{v:Value}(tW:∀id∈refs x,al id)(r:zY ρ hp X w x v):zY ρ' hp' X' w' x v:=by
 cases x with
 |v x=>exact Hc.later h hh tW r
 |any=>trivial
 |Pm xs =>
  obtain⟨arr,hv,hl,hr⟩:=r;refine⟨arr,hv,hl,fun i x u hx hu=>Hc.later h hh (fun id yB=>tW id ?_) (hr i x u hx hu)⟩;exact List.mem_flatMap.2 ⟨x,bYW hx,yB⟩
end
theorem jX.next{E:Env}{X:Nat->Prop}{w0:Old}{ρ ρ':Nat->Nat}{al al':Nat->Prop}{fr:Nat->A}{hp hp':Nat->Option lO}{a:Act}{w w':World}{o:Oper}{x:A}{v:Value}
  (h:jX E X w0 ρ al fr hp a w) (hd:kD E.nt o=true)
  (hl:jB (XO X ρ hp) w (XO X ρ' hp') w') (hb:Kept w0 w w')
  (hh:xB ρ ρ' hp hp' w w' al)
  (Ka:∀id b,hp' id=some b->w0.El E.n0 id (ρ' id)/\Hd (XO X ρ' hp') w' (ρ' id) b)
  (Bk:∀id Zo b b',hp' id=some b->hp' Zo=some b'->ρ' id=ρ' Zo->id=Zo)
  (tW:∀id,al id->al' id) (aYV:∀id b,hp' id=some b->al' id)
  (hx:zY ρ' hp' (XO X ρ' hp') w' x v) (bDG:∀id∈refs x,al' id) :
  jX E X w0 ρ' al' (Ei o x fr) hp' (a.put o.dst v) w':=by
 have key:∀t,zY ρ' hp' (XO X ρ' hp') w' (Ei o x fr t) ((a.put o.dst v).tmps.getD t undef)/\∀id∈refs (Ei o x fr t),al' id:=by
  intro t;unfold Ei Act.put;cases aHB:o.dst with
  |none=>exact⟨zY.later hl hh (h.alr t) (h.fr t),fun id yB=>tW id (h.alr t id yB)⟩
  |some d =>
   have jM:d<a.tmps.size:=by rw[h.sz];unfold kD at hd;rw[aHB]at hd;simpa using hd
   simp only[Co];cases bPP:bYO t d with
   |true =>
    obtain rfl:t=d:=bZB bPP;simp only[cond_true];refine⟨?_,bDG⟩;have e:(a.tmps.setIfInBounds t v).getD t undef=v:=by simp[Array.getD,jM]
    rw[e];exact hx
   |false =>
    have Fj:t≠d:=cAR bPP;simp only[cond_false];have e:(a.tmps.setIfInBounds d v).getD t undef=a.tmps.getD t undef:=by
     simp only[Array.getD_eq_getD_getElem?,Array.getElem?_setIfInBounds];rw[if_neg (fun h=>Fj h.symm)]
    rw[e];exact⟨zY.later hl hh (h.alr t) (h.fr t),fun id yB=>tW id (h.alr t id yB)⟩
 exact { fr:=fun t=>(key t).1,sz:=by unfold Act.put;cases o.dst <;> simp[h.sz],nod:=by unfold Act.put;cases o.dst <;> exact h.nod,blk:=Ka,inj:=Bk,alh:=aYV,alr:=fun t=>(key t).2,below:=h.below.trans hb,x0:=h.x0,glob:=h.glob,mg:=h.mg,al0:=fun id hi=>tW id (h.al0 id hi),pK:=fun id hi=>(hh id (h.al0 id hi)).1.trans (h.pK id hi) }
theorem jX.pure{E:Env}{X:Nat->Prop}{w0:Old}{ρ:Nat->Nat}{al:Nat->Prop}{fr:Nat->A}{hp:Nat->Option lO}{a:Act}{w:World}{o:Oper}{x:A}{v:Value}
  (h:jX E X w0 ρ al fr hp a w) (hd:kD E.nt o=true) (hx:zY ρ hp (XO X ρ hp) w x v) (bDG:∀id∈refs x,al id) :
  jX E X w0 ρ al (Ei o x fr) hp (a.put o.dst v) w :=
 h.next hd (jB.refl _ _) (Kept.refl _ _) (xB.refl _ _ _ _) h.blk h.inj (fun _ h=>h) h.alh hx bDG
theorem jX.Ug{E:Env}{X:Nat->Prop}{w0:Old}{ρ:Nat->Nat}{al:Nat->Prop}{fr:Nat->A}{hp:Nat->Option lO}{a:Act}{w:World}
  (h:jX E X w0 ρ al fr hp a w):GlobOk E.glob (XO X ρ hp) w:=by
 intro g k ns hg;obtain⟨h1,h2,h3⟩:=h.glob g k ns hg;have hm:¬w0.Jx g:=by
  rintro (hm |hm)
  ·omega
  ·exact h.mg g _ hg hm
 have hx:¬XO X ρ hp g:=by
  rintro (ho |⟨id,b',e1,e2⟩)
  ·exact h2 ho
  ·exact hm (e2▸(h.blk id b' e1).1.Jx)
 refine⟨bZN h1 h.below.size,hx,fun i s hs=>?_⟩;obtain⟨_,_,u,hu,hr⟩:=h3 i s hs;refine⟨bZN h1 h.below.size,hx,u,(World.cell?_of_block (a:=⟨g,0+i,none⟩) (h.below.block g hm)).trans hu,?_⟩;unfold xZ at hs;rw[bYR]at hs;obtain⟨m,_,rfl⟩:=Option.map_eq_some_iff.1 hs;exact hr
theorem jX.ev{E:Env}{X:Nat->Prop}{w0:Old}{ρ:Nat->Nat}{al:Nat->Prop}{fr:Nat->A}{hp:Nat->Option lO}{a:Act}{w:World}
  (h:jX E X w0 ρ al fr hp a w) (x:Operand):zY ρ hp (XO X ρ hp) w (evA E fr x) (a.eval x)/\∀id∈refs (evA E fr x),al id:=by
 cases x with
 |tmp t=>exact⟨h.fr t,h.alr t⟩
 |const v =>
  simp only[evA];split
  ·rename_i hv;exact⟨⟨rfl,hv⟩,by simp[refs,refsV,refsL]⟩
  ·exact⟨trivial,by simp[refs]⟩
 |func f=>exact⟨⟨rfl,rfl⟩,by simp[evA,refs,refsV,refsL]⟩
 |global g =>
  simp only[evA];cases hg:E.glob g with
  |none=>exact⟨trivial,by simp[refs]⟩
  |some p =>
   obtain⟨k,ns⟩:=p;refine⟨⟨g,0,rfl,?_⟩,by simp[refs,refsV,refsL]⟩;exact(h.Ug g k ns hg).2.2
end AI
namespace AI
open Go Go.RowKit
theorem Ir{R:Type}(op:BinOp)(x y:Value)(K:Value->Option R):binK op x y K=(binK op x y some).bind K:=by
 unfold binK;split
 ·split <;> (repeat' split) <;> first |rfl | (simp;done)
 ·split <;> (repeat' split) <;> first |rfl | (generalize Ieee.Format.add _ _ _=m;cases m <;> rfl) | (generalize Ieee.Format.sub _ _ _=m;cases m <;> rfl) | (generalize Ieee.Format.mul _ _ _=m;cases m <;> rfl) | (generalize Ieee.Format.div _ _ _=m;cases m <;> rfl)
 ·split <;> rfl
 ·rfl
theorem Lq{R:Type}(op:UnOp)(x:Value)(K:Value->Option R):unK op x K=(unK op x some).bind K:=by
 unfold unK;split <;> simp
theorem Eu{R:Type}(k:TK)(x:Value)(K:Value->Option R):convK k x K=(convK k x some).bind K:=by
 unfold convK;split
 ·simp
 ·simp
 ·rename_i s b;cases ((FloatKind.decode s b).toInt .zero)with
  |none=>rfl
  |some n=>simp only[cAE];split <;> simp
 ·split <;> simp
 ·rfl
theorem fdiv_pow(a:Int)(n:Nat):a.fdiv (2^n)=a/((2^n:Nat):Int):=by
 rw[Int.fdiv_eq_ediv_of_nonneg _ (by exact Int.le_of_lt (Int.pow_pos (by omega)))];simp
theorem Yg{P:Program}(op:BinOp)(t:TypeId)(x y:Operand)(k k':IntKind)(a b:Int)(w:World):(eqGuard op t x y (.int k a) (.int k' b)).run P w=.ok () w:=by
 unfold eqGuard;split <;> rfl
theorem Qf{P:Program}(op:BinOp)(t:TypeId)(x y:Operand)(k k':FloatKind)(a b:Nat)(w:World):(eqGuard op t x y (.float k a) (.float k' b)).run P w=.ok () w:=by
 unfold eqGuard;split <;> rfl
theorem Uk{P:Program}(op:BinOp)(t:TypeId)(x y:Operand)(a b:Bool)(w:World):(eqGuard op t x y (.bool a) (.bool b)).run P w=.ok () w:=by
 unfold eqGuard;split <;> rfl
theorem aTJ{P:Program}(op:BinOp)(t:TypeId)(k k':IntKind)(a b:Int)(r:Value)(w:World)(h:binK op (.int k a) (.int k' b) some=some r) :
  (binOp op t (.int k a) (.int k' b)).run P w=.ok r w/\r.oneCell'=true:=by
 cases op <;> simp only[binK]at h
 case shl =>
  split at h <;> cases h;rename_i hb;simp[binOp,Op.shift,hb,Value.oneCell']
 case shr =>
  split at h <;> cases h;rename_i hb;simp[binOp,Op.shift,fdiv_pow,hb,Value.oneCell']
 case quo =>
  split at h <;> try (cases h;done)
  split at h <;> cases h;rename_i hk hb;simp[binOp,Op.intDiv,hk,hb,Value.oneCell']
 case rem =>
  split at h <;> try (cases h;done)
  split at h <;> cases h;rename_i hk hb;simp[binOp,Op.intDiv,hk,hb,Value.oneCell']
 all_goals
  split at h <;> cases h;rename_i hk;subst hk;simp[binOp,Op.intArith,Op.intCmp,Op.intBits,wO,bitsI0,Value.oneCell']
theorem aHW{P:Program}(op:BinOp)(t:TypeId)(k k':FloatKind)(a b:Nat)(r:Value)(w:World)(h:binK op (.float k a) (.float k' b) some=some r) :
  (binOp op t (.float k a) (.float k' b)).run P w=.ok r w/\r.oneCell'=true:=by
 cases op <;> simp only[binK]at h
 case add =>
  split at h <;> try (cases h;done)
  rename_i hk;subst hk;obtain⟨m,hm,hr⟩:=Option.bind_eq_some_iff.1 h;cases hr;simp[binOp,Op.floatArith,hm,Value.oneCell']
 case sub =>
  split at h <;> try (cases h;done)
  rename_i hk;subst hk;obtain⟨m,hm,hr⟩:=Option.bind_eq_some_iff.1 h;cases hr;simp[binOp,Op.floatArith,hm,Value.oneCell']
 case mul =>
  split at h <;> try (cases h;done)
  rename_i hk;subst hk;obtain⟨m,hm,hr⟩:=Option.bind_eq_some_iff.1 h;cases hr;simp[binOp,Op.floatArith,hm,Value.oneCell']
 case quo =>
  split at h <;> try (cases h;done)
  rename_i hk;subst hk;obtain⟨m,hm,hr⟩:=Option.bind_eq_some_iff.1 h;cases hr;simp[binOp,Op.floatArith,hm,Value.oneCell']
 all_goals (try (cases h;done))
 all_goals
  split at h <;> cases h;rename_i hk;subst hk;simp[binOp,Op.floatCmp,Value.oneCell']
theorem aHV{P:Program}(op:BinOp)(t:TypeId)(x y:Operand)(a b r:Value)(w:World)(hb:∀q,a=.bool q->P.underlying t=some .bool)(h:binK op a b some=some r) :
  (do eqGuard op t x y a b;binOp op t a b:Sem Value).run P w=.ok r w/\r.oneCell'=true:=by
 cases a with
 |int k a =>
  cases b with
  |int k' b=>rw[Sem.run_bind,Yg];exact aTJ op t k k' a b r w h
  |_=>simp[binK]at h
 |float k a =>
  cases b with
  |float k' b=>rw[Sem.run_bind,Qf];exact aHW op t k k' a b r w h
  |_=>simp[binK]at h
 |bool a =>
  cases b with
  |bool b =>
   rw[Sem.run_bind,Uk];have ht:=hb a rfl;cases op <;> simp only[binK]at h <;> cases h
   ·exact⟨run_eql_bool w t a b ht,rfl⟩
   ·refine⟨?_,rfl⟩;rw[Result.andThen_ok];simp only[binOp];rw[Sem.run_bind,run_equal_bool w t a b ht];rfl
  |_=>simp[binK]at h
 |_=>simp[binK]at h
theorem aJA{P:Program}(op:UnOp)(a r:Value)(w:World)(h:unK op a some=some r) :
  (Op.unary op a).run P w=.ok r w/\r.oneCell'=true:=by
 unfold unK at h;split at h <;> cases h <;> simp[Op.unary,Op.intArith,Op.intBits,wO,bitsI0,Value.oneCell']
end AI
namespace AI
open Go Go.RowKit
section
variable {E:Env} {X:Nat->Prop} {w0:Old} {ρ ρ':Nat->Nat} {al al':Nat->Prop} {fr:Nat->A} {hp hp':Nat->Option lO} {a:Act} {w w':World}
theorem jX.change(h:jX E X w0 ρ al fr hp a w)
  (hl:jB (XO X ρ hp) w (XO X ρ' hp') w') (hb:Kept w0 w w')
  (hh:xB ρ ρ' hp hp' w w' al)
  (Ka:∀id b,hp' id=some b->w0.El E.n0 id (ρ' id)/\Hd (XO X ρ' hp') w' (ρ' id) b)
  (Bk:∀id Zo b b',hp' id=some b->hp' Zo=some b'->ρ' id=ρ' Zo->id=Zo)
  (tW:∀id,al id->al' id) (aYV:∀id b,hp' id=some b->al' id):jX E X w0 ρ' al' fr hp' a w' :=
 { fr:=fun t=>zY.later hl hh (h.alr t) (h.fr t),sz:=h.sz,nod:=h.nod,blk:=Ka,inj:=Bk,alh:=aYV,alr:=fun t id yB=>tW id (h.alr t id yB),below:=h.below.trans hb,x0:=h.x0,glob:=h.glob,mg:=h.mg,al0:=fun id hi=>tW id (h.al0 id hi),pK:=fun id hi=>(hh id (h.al0 id hi)).1.trans (h.pK id hi) }
def Cons(u:sU):Prop:=∀p∈u,p.2=none
theorem mM(u v:sU)(hp:Nat->Option lO):applyUps (u ++ v) hp=applyUps v (applyUps u hp):=by
 induction u generalizing hp with
 |nil=>rfl
 |cons p u ih=>obtain⟨i,b⟩:=p;simp only[cAF,applyUps];exact ih _
theorem cH{α:Type}(f:Nat->α)(d:Nat)(x:α):Co f d x d=x:=by simp[Co]
theorem gK{α:Type}(f:Nat->α){d i:Nat}(x:α)(h:i≠d):Co f d x i=f i:=by
 have:bYO i d=false:=by cases hb:bYO i d with
  |false=>rfl
  |true=>exact absurd (bZB hb) h
 simp[Co,this]
theorem iO{u:sU}(hu:Cons u){hp:Nat->Option lO}{i:Nat}{b:lO}(h:applyUps u hp i=some b):hp i=some b:=by
 induction u generalizing hp with
 |nil=>exact h
 |cons p u ih =>
  obtain⟨j,c⟩:=p;have hc:c=none:=hu (j,c) (by simp);subst hc;have:=ih (fun p hp=>hu p (by simp[hp])) h
  by_cases bBJ:i=j
  ·subst bBJ;rw[cH]at this;cases this
  ·rwa [gK _ _ bBJ]at this
theorem Qq{u:sU}(hu:Cons u){hp:Nat->Option lO}{i:Nat}(h:(i,none)∈u):applyUps u hp i=none:=by
 induction u generalizing hp with
 |nil=>cases h
 |cons p u ih =>
  obtain⟨j,c⟩:=p;have hc:c=none:=hu (j,c) (by simp);subst hc;have Tv:Cons u:=fun p hp=>hu p (by simp[hp])
  rcases List.mem_cons.1 h with h |h
  ·cases h;cases hq:applyUps ((i,none) :: u) hp i with
   |none=>rfl
   |some b=>have:=iO Tv (hp:=Co hp i none) hq;rw[cH]at this;cases this
  ·exact ih Tv h
theorem aQB.of_cons{u:sU}(hu:Cons u){b:Nat}(h:aQB ρ (applyUps u hp) b):aQB ρ hp b:=by
 obtain⟨id,bl,h1,h2⟩:=h;exact⟨id,bl,iO hu h1,h2⟩
theorem jB.cons{u:sU}(hu:Cons u):jB (XO X ρ hp) w (XO X ρ (applyUps u hp)) w :=
 ⟨bYN _,fun _ _ hx=>⟨rfl,fun h=>hx (h.imp id (aQB.of_cons hu))⟩⟩
theorem Hd.later{X X':Nat->Prop}{g:Nat}{b:lO}(h:jB X w X' w')(hg:w'.heap[g]?=w.heap[g]?)(r:Hd X w g b):Hd X' w' g b:=by
 obtain⟨arr,h1,h2⟩:=r;exact⟨arr,hg.trans h1,h2.later h⟩
theorem jX.cons(h:jX E X w0 ρ al fr hp a w){u:sU}(hu:Cons u):jX E X w0 ρ al fr (applyUps u hp) a w :=
 h.change (jB.cons hu) (Kept.refl _ _)
  (fun _ _=>⟨rfl,fun b' xO=>⟨b',iO hu xO,sameShape.refl _,rfl⟩⟩)
  (fun id b hb=>⟨(h.blk id b (iO hu hb)).1,(h.blk id b (iO hu hb)).2.later (jB.cons hu) rfl⟩)
  (fun id Zo b b' h1 h2 e=>h.inj id Zo b b' (iO hu h1) (iO hu h2) e)
  (fun _ h=>h) (fun id b hb=>h.alh id b (iO hu hb))
theorem Hd.lt{X:Nat->Prop}{g:Nat}{b:lO}(r:Hd X w g b):g<w.heap.size:=by
 obtain⟨arr,h1,_⟩:=r;exact(Array.getElem?_eq_some_iff.1 h1).1
theorem yD(w:World)(o:Obj):(w.alloc o).heap[w.heap.size]?=some o:=heap_alloc_new w o
theorem yC(w:World)(o:Obj){k:Nat}(h:k<w.heap.size):(w.alloc o).heap[k]?=w.heap[k]?:=Below.heap_alloc w o k h
theorem jX.jY(h:jX E X w0 ρ al fr hp a w){id:Nat}{b:lO}(hb:hp id=some b):ρ id<w.heap.size:=(h.blk id b hb).2.lt
theorem Kept.alloc{o:Old}{w:World}(h:o.w.heap.size<=w.heap.size)(x:Obj):Kept o w (w.alloc x) :=
 ⟨rfl,rfl,rfl,by simp,fun _ hb=>yC w x (by have:=Old.Wy hb;omega),fun b hb=>yI (yC w x (by have:=o.bCR b hb;omega))⟩
theorem jX.alloc(h:jX E X w0 ρ al fr hp a w){id:Nat}(yB:¬al id)(tW:∀i,al i->al' i)(uL:al' id)(e:TypeId)(c:oH)(arr:Array Value)(hc:zX (XO X ρ hp) w c arr) :
  jX E X w0 (Co ρ id w.heap.size) al' fr (Co hp id (some ⟨e,c⟩)) a (w.alloc (.cells arr e)):=by
 have Fj:∀i,al i->i≠id:=fun i hi e=>yB (e▸hi)
 have hl:jB (XO X ρ hp) w (XO X (Co ρ id w.heap.size) (Co hp id (some ⟨e,c⟩))) (w.alloc (.cells arr e)):=by
  refine⟨by simp,fun b hb hx=>⟨yC w _ hb,fun ho=>?_⟩⟩;rcases ho with ho |⟨i,bl,h1,h2⟩
  ·exact hx (.inl ho)
  ·by_cases hi:i=id
   ·subst hi;rw[cH]at h2;omega
   ·rw[gK _ _ hi]at h1 h2;exact hx (.inr ⟨i,bl,h1,h2⟩)
 refine h.change hl (Kept.alloc h.below.size _) ?_ ?_ ?_ tW ?_
 ·intro i hi;refine⟨gK _ _ (Fj i hi),fun b' xO=>?_⟩;rw[gK _ _ (Fj i hi)]at xO;refine⟨b',xO,sameShape.refl _,?_⟩;unfold nB;rw[yC w _ (h.jY xO)]
 ·intro i b hb
  by_cases hi:i=id
  ·subst hi;rw[cH]at hb;cases hb;refine⟨by rw[cH];exact .inl h.below.size,arr,by rw[cH];exact yD w _,hc.later hl⟩
  ·rw[gK _ _ hi]at hb;rw[gK _ _ hi];exact⟨(h.blk i b hb).1,(h.blk i b hb).2.later hl (yC w _ (h.jY hb))⟩
 ·intro i i' b b' h1 h2 e
  by_cases hi:i=id
  ·by_cases aER:i'=id
   ·rw[hi,aER]
   ·subst hi;rw[gK _ _ aER]at h2;rw[cH,gK _ _ aER]at e;have:=h.jY h2;omega
  ·by_cases aER:i'=id
   ·subst aER;rw[gK _ _ hi]at h1;rw[cH,gK _ _ hi]at e;have:=h.jY h1;omega
   ·rw[gK _ _ hi]at h1 e;rw[gK _ _ aER]at h2 e;exact h.inj i i' b b' h1 h2 e
 ·intro i b hb
  by_cases hi:i=id
  ·subst hi;exact uL
  ·rw[gK _ _ hi]at hb;exact tW i (h.alh i b hb)
theorem jX.setRow(h:jX E X w0 ρ al fr hp a w){id:Nat}{b:lO}(hb:hp id=some b)(c:oH)(arr:Array Value)(hs:sameShape b ⟨b.e,c⟩)(uJ:nB w (ρ id)=arr.size)(hc:zX (XO X ρ hp) w c arr) :
  jX E X w0 ρ al fr (Co hp id (some ⟨b.e,c⟩)) a (w.setRow (ρ id) arr):=by
 obtain⟨Nj,bMR,hg,_⟩:=h.blk id b hb;have uL:(w.setRow (ρ id) arr).heap[ρ id]?=some (.cells arr b.e (0,0)):=setRow_heap w (ρ id) bMR arr b.e _ hg;have hold:∀k,k≠ρ id->(w.setRow (ρ id) arr).heap[k]?=w.heap[k]?:=fun k hk=>setRow_other w (ρ id) k arr (fun e=>hk e)
 have uK:∀b',aQB ρ (Co hp id (some ⟨b.e,c⟩)) b'->aQB ρ hp b':=by
  rintro b' ⟨i,bl,h1,h2⟩
  by_cases hi:i=id
  ·subst hi;exact⟨i,b,hb,h2⟩
  ·rw[gK _ _ hi]at h1;exact⟨i,bl,h1,h2⟩
 have hl:jB (XO X ρ hp) w (XO X ρ (Co hp id (some ⟨b.e,c⟩))) (w.setRow (ρ id) arr):=by
  refine⟨by simp[World.setRow],fun b' xO hx=>⟨hold b' (fun e=>hx (.inr ⟨id,b,hb,e.symm⟩)),fun ho=>hx (ho.imp (fun h=>h) (uK b'))⟩⟩
 have Bk:∀i b',hp i=some b'->i≠id->ρ i≠ρ id:=fun i b' hi Fj e=>Fj (h.inj i id b' b hi hb e)
 refine h.change hl ⟨rfl,rfl,rfl,by simp[World.setRow],fun k hk=>hold k (fun e=>hk (e▸Nj.Jx)),fun k _=>by
  by_cases hk:k=ρ id
  ·rw[hk,uJ];unfold nB;rw[uL]
  ·exact yI (hold k hk)⟩ ?_ ?_ ?_ (fun _ h=>h) ?_
 ·intro i _;refine⟨rfl,fun b' xO=>?_⟩
  by_cases hi:i=id
  ·subst hi;rw[cH]at xO;cases xO;refine⟨b,hb,hs,?_⟩;rw[uJ];unfold nB;rw[uL]
  ·rw[gK _ _ hi]at xO;refine⟨b',xO,sameShape.refl _,?_⟩;unfold nB;rw[hold _ (Bk i b' xO hi)]
 ·intro i b' xO
  by_cases hi:i=id
  ·subst hi;rw[cH]at xO;cases xO;exact⟨Nj,arr,uL,hc.later hl⟩
  ·rw[gK _ _ hi]at xO;exact⟨(h.blk i b' xO).1,(h.blk i b' xO).2.later hl (hold _ (Bk i b' xO hi))⟩
 ·intro i i' b1 b2 h1 h2 e;have f:∀i b1,Co hp id (some ⟨b.e,c⟩) i=some b1->∃b2,hp i=some b2:=by
   intro i b1 h1
   by_cases hi:i=id
   ·subst hi;exact⟨b,hb⟩
   ·rw[gK _ _ hi]at h1;exact⟨b1,h1⟩
  obtain⟨c1,aBG⟩:=f i b1 h1;obtain⟨c2,aVO⟩:=f i' b2 h2;exact h.inj i i' c1 c2 aBG aVO e
 ·intro i b1 h1
  by_cases hi:i=id
  ·subst hi;exact h.alh i b hb
  ·rw[gK _ _ hi]at h1;exact h.alh i b1 h1
theorem jX.Xz(h:jX E X w0 ρ al fr hp a w){id:Nat}{b:lO}(hb:hp id=some b){u:sU}(hu:Cons u)(yB:(id,none)∈u):¬XO X ρ (applyUps u hp) (ρ id):=by
 rintro (hx |⟨i,bl,h1,h2⟩)
 ·exact h.x0 _ hx (h.blk id b hb).1.Jx
 ·have:=h.inj i id bl b (iO hu h1) hb h2;subst this;rw[Qq hu yB]at h1;cases h1
theorem jX.zM(h:jX E X w0 ρ al fr hp a w){id:Nat}{e:TypeId}{k:IntKind}{ns:List Int}(hb:hp id=some ⟨e,.ints k ns⟩){i:Nat}{n:Int}(hi:ns[i]?=some n):w.cell? ⟨ρ id,i,none⟩=some (.int k n):=by
 obtain⟨_,arr,hg,hc⟩:=h.blk id _ hb;rw[cell_of_row w (ρ id) i arr e (0,0) hg];exact hc.2 i n hi
theorem xK(h:jX E X w0 ρ al fr hp a w){x:A}{v:Value}(hr:zY ρ hp (XO X ρ hp) w x v){cs:List S}{u:sU}(hc:cellsOf hp x=some (cs,u)) :
  Cons u/\jI (XO X ρ (applyUps u hp)) w cs v.cells.toList:=by
 unfold cellsOf at hc;split at hc
 ·cases hc;obtain⟨arr,rfl,hs⟩:=hr;exact⟨(fun p hp=>by cases hp),hs⟩
 ·cases hc;rename_i x;have hr:rI _ w x v:=hr;refine⟨(fun p hp=>by cases hp),?_⟩;have e:v.cells.toList=[v]:=by
   have:=hr.one;cases v <;> first |rfl | (simp[Value.oneCell']at this)
  rw[e];refine⟨rfl,fun i s u hs hu=>?_⟩
  match i with
  |0=>simp at hs hu;subst hs;subst hu;exact hr
  |i+1=>simp at hs
 ·split at hc <;> cases hc;rename_i id n o e k ns hb;obtain⟨cap,rfl,Dj,bLL,_⟩:=hr;have hu:Cons [(id,none)]:=fun p hp=>by simp at hp;subst hp;rfl
  refine⟨hu,rfl,fun i s u hs Tv=>?_⟩
  match i with
  |0 =>
   simp[Value.cells]at hs Tv;subst hs;subst Tv;obtain⟨hn,_⟩:=bLL _ k ns hb rfl;subst hn;refine⟨_,cap,rfl,Dj,fun i n hi=>⟨ρ id,0,rfl,h.jY hb,h.Xz hb hu (by simp),?_⟩⟩;rw[bYP];exact h.zM hb hi
  |i+1=>simp at hs
 ·split at hc <;> cases hc;rename_i id off n o e k ns hb;obtain⟨A0,cap,rfl,Dj,hA,hlen⟩:=xP hr;have hu:Cons [(id,none)]:=fun p hp=>by simp at hp;subst hp;rfl
  have hl:=hlen _ k ns hb rfl;refine⟨hu,rfl,fun i s u hs Tv=>?_⟩
  match i with
  |0 =>
   simp[Value.cells]at hs Tv;subst hs;subst Tv;refine⟨A0,cap,by simp;omega,by simp;omega,fun i m hi=>?_⟩;have aBB:i<n:=by
    have:=(List.getElem?_eq_some_iff.1 hi).1;simp at this;omega
   refine⟨ρ id,off,hA (by omega),h.jY hb,h.Xz hb hu (by simp),?_⟩;refine h.zM hb ?_;rw[bYS aBB,bYZ]at hi;exact hi
  |i+1=>simp at hs
 ·cases hc
end
end AI
namespace AI
open Go Go.RowKit
def uI:TypeDesc->Bool
 | .struct _ | .array _ _=>true
 |_=>false
def Pa(P:Program):TK->TypeDesc->Prop
 | .bool,d=>d=.bool
 | .int k,d=>d=.int k
 | .float k,d=>d=.float k
 | .other,d=>uI d=false
 | .struct fs,d=>∃fields,d=.struct fields/\fs.length=fields.size/\∀(i:Nat) (f:Field),fields[i]?=some f->∃fi fd,P.info? f.type=some fi/\P.underlying f.type=some fd/\fs[i]?=some (f.offset,fi.size,uI fd)
 | .arr len sQ g,d=>∃e ei ed,d=.array len e/\P.info? e=some ei/\ei.size=sQ/\P.underlying e=some ed/\uI ed=g
 | .slice e,d=>d=.slice e
 | .str,d=>d=.string
def eqChkF(P:Program):Nat->List Field->List IntKind->Bool
 |_,[],[]=>true
 |i,f :: r,k :: ks=>(f.name != "_")&&(bYO f.offset i&&((match P.underlying f.type with
  |some (.int k')=>decide (k'=k)
  |_=>false)&&eqChkF P (i+1) r ks))
 |_,_,_=>false
def bAW(P:Program)(t:TypeId)(ks:List IntKind):Prop:=∃fields,P.underlying t=some (.struct fields)/\P.stoodInHeld t=false/\eqChkF P 0 fields.toList ks=true/\P.eqGuardType P.depth t=false
structure By(P:Program)(t:TypeId)(ti:TI):Prop where
 i:∃i,P.info? t=some i/\i.size=ti.size/\i.bytes=ti.bytes/\∃z,i.zero=some z/\z.cells.toList=ti.zero
 zl:ti.zero.length=ti.size
 zo:∀v∈ti.zero,v.oneCell'=true
 d:∃d,P.underlying t=some d/\Pa P ti.kind d
 eq:∀ks,yY ti=some ks->bAW P t ks
def qE(P:Program)(T:TypeId->Option TI):Prop:=∀t ti,T t=some ti->By P t ti
theorem Pa.agg{P:Program}{k:TK}{d:TypeDesc}(h:Pa P k d):uI d=k.isAgg:=by
 cases k with
 |other=>exact h
 |struct fs=>obtain⟨f,rfl,_⟩:=h;rfl
 |arr l e g=>obtain⟨_,_,_,rfl,_⟩:=h;rfl
 |_=>cases h;rfl
section
variable {P:Program} {t:TypeId} {ti:TI} {w:World}
theorem By.Rd(h:By P t ti):(isAgg t).run P w=.ok ti.kind.isAgg w:=by
 obtain⟨d,hd,hk⟩:=h.d;rw[<-hk.agg];unfold isAgg;rw[Sem.run_bind,run_underlying hd];cases d <;> rfl
theorem Fw{k:IntKind}(hu:P.underlying t=some (.int k)){cs:Array Value}{i:Nat}{v:Value}(hv:cs[i]?=some v):(part t cs i).run P w=.ok v w:=by
 have ha:(isAgg t).run P w=.ok false w:=by simp[isAgg,Sem.run_bind,run_underlying hu]
 unfold part;rw[Sem.run_bind,ha];simp[hv]
theorem aFE(d:Nat)(xs ys:Array Value):∀(fs:List Field) (ks:List IntKind) (i:Nat) (cs ds:List S) (q:Bool),eqChkF P i fs ks=true->eqInts ks cs ds=some q ->
  (∀(j:Nat) (c:Value),cs[j]?=some (.sc c)->xs[i+j]?=some c)->(∀(j:Nat) (c:Value),ds[j]?=some (.sc c)->ys[i+j]?=some c)->(Op.eqFields (d+1) xs ys fs).run P w=.ok q w
 | [],ks,i,cs,ds,q,h,he,hx,hy=>by
  cases ks with
  |cons=>cases h
  |nil =>
   have:q=true:=by cases cs <;> cases ds <;> simp[eqInts]at he <;> exact he
   subst this;rfl
 |f :: r,ks,i,cs,ds,q,h,he,hx,hy=>by
  cases ks with
  |nil=>cases h
  |cons k ks =>
   obtain⟨a,b,r1,r2,rfl,rfl,q',hq,rfl⟩:∃a b r1 r2,cs=.sc (.int k a) :: r1/\ds=.sc (.int k b) :: r2/\∃q',eqInts ks r1 r2=some q'/\q=((a==b)&&q'):=by
    clear hx hy
    match cs,ds,he with
    | .sc (.int k1 a) :: r1,.sc (.int k2 b) :: r2,Dk =>
     simp only[eqInts]at Dk;split at Dk
     ·rename_i hk;obtain⟨rfl,rfl⟩:=hk;obtain⟨q',hq,rfl⟩:=Option.map_eq_some_iff.1 Dk;exact⟨a,b,r1,r2,rfl,rfl,q',hq,rfl⟩
     ·cases Dk
   unfold eqChkF at h;simp only[bYT,bne_iff_ne,ne_eq]at h;obtain⟨hn,ho,hu,hr⟩:=h;have ho:=bZB ho;split at hu
   ·rename_i k' Tv;have x0:=hx 0 _ rfl;have y0:=hy 0 _ rfl;have ih:=aFE d xs ys r ks (i+1) r1 r2 q' hr hq (fun j c hc=>by have:=hx (j+1) c hc;rwa [show i+(j+1)=i+1+j from by omega]at this) (fun j c hc=>by have:=hy (j+1) c hc;rwa [show i+(j+1)=i+1+j from by omega]at this);rw[bZO,<-ho]at x0 y0;simp only[Op.eqFields,ne_eq,hn,not_false_eq_true,if_true,Sem.run_bind,Fw Tv x0,Fw Tv y0,Result.andThen_ok,run_equalIn_int w d f.type _ _ a b Tv];cases aSJ:(a==b)with
    |true=>simpa [Sem.run_ite] using ih
    |false=>simp
   ·cases hu
theorem aZJ{ks:List IntKind}(h:bAW P t ks){xs ys:Array Value}{cs ds:List S}{q:Bool}(he:eqInts ks cs ds=some q)
  (hx:∀(j:Nat) (c:Value),cs[j]?=some (.sc c)->xs[j]?=some c) (hy:∀(j:Nat) (c:Value),ds[j]?=some (.sc c)->ys[j]?=some c) :
  (∀y z,(do eqGuard .eql t y z (.agg xs) (.agg ys);binOp .eql t (.agg xs) (.agg ys):Sem Value).run P w=.ok (.bool q) w)/\(∀y z,(do eqGuard .neq t y z (.agg xs) (.agg ys);binOp .neq t (.agg xs) (.agg ys):Sem Value).run P w=.ok (.bool (!q)) w):=by
 obtain⟨fields,hu,hs,hf,hg⟩:=h;have aIR:P.fieldsOf t=fields:=by simp[Program.fieldsOf,hu]
 have hr:(Op.equal t (.agg xs) (.agg ys)).run P w=.ok q w:=by
  show(Op.equalIn (9999+1) t (.agg xs) (.agg ys)).run P w=_;rw[run_equalIn_struct w 9999 t xs ys (by rw[aIR];exact hu) hs,aIR];exact aFE (w:=w) 9998 xs ys fields.toList ks 0 cs ds q hf he (fun j c hc=>by rw[bYP];exact hx j c hc) (fun j c hc=>by rw[bYP];exact hy j c hc)
 constructor <;> intro y z <;> rw[Sem.run_bind,run_eqGuard_agg (w:=w) _ t y z xs ys hg,Result.andThen_ok]
 ·show(do pure (Value.bool (<-Op.equal t (.agg xs) (.agg ys))):Sem Value).run P w=_;rw[Sem.run_bind,hr];rfl
 ·show(do pure (Value.bool (!(<-Op.equal t (.agg xs) (.agg ys)))):Sem Value).run P w=_;rw[Sem.run_bind,hr];rfl
theorem By.run_sizeOf(h:By P t ti):(sizeOf t).run P w=.ok ti.size w:=by
 obtain⟨i,hi,hs,_⟩:=h.i;simp[sizeOf,typeInfo,hi,hs]
theorem By.aKI(h:By P t ti):∃z,(zeroValue t).run P w=.ok z w/\z.cells.toList=ti.zero:=by
 obtain⟨i,hi,hs,hb,z,hz,hc⟩:=h.i;exact⟨z,by simp[zeroValue,typeInfo,hi,hz],hc⟩
end
theorem bB{α:Type}{l:List α}{i:Nat}{x:α}(h:l[i]?=some x):i<l.length:=(List.getElem?_eq_some_iff.1 h).1
theorem bV{α:Type}{l:List α}{i:Nat}(h:i<l.length):∃x,l[i]?=some x:=⟨l[i],bZD h⟩
theorem nO(b off n:Nat):(⟨b,off,none⟩:Addr).add n=⟨b,off+n,none⟩:=by unfold Addr.add;split <;> simp_all
theorem Wa{X:Nat->Prop}{w:World}{zs:List Value}(hz:∀v∈zs,v.oneCell'=true):jI X w (zs.map .sc) zs:=by
 refine⟨by simp,fun i s u hs hu=>?_⟩;simp only[bYR,hu,bZA,Option.some.injEq]at hs;subst hs;exact⟨rfl,hz u (bYW hu)⟩
theorem aIX{X:Nat->Prop}{w:World}{zs:List Value}(wd:Option IntKind)(hz:∀v∈zs,v.oneCell'=true):jI X w (zs.map (wideS wd)) zs:=by
 refine⟨by simp,fun i s u hs hu=>?_⟩;simp only[bYR,hu,bZA,Option.some.injEq]at hs;subst hs;have h0:=hz u (bYW hu);unfold wideS;split
 ·exact⟨rfl,h0⟩
 ·split
  ·exact⟨none,0,rfl,bYN _,fun i n hn=>by simp at hn⟩
  ·exact⟨rfl,h0⟩
theorem jI.cells{X:Nat->Prop}{w:World}{cs:List S}{arr:Array Value}(h:jI X w cs arr.toList):zX X w (.cells cs) arr :=
 ⟨by have:=h.1;simp at this;omega,fun i s hs=>by
  have jM:=bB hs;rw[h.1]at jM;obtain⟨u,hu⟩:=bV jM;exact⟨u,by simpa using hu,h.2 i s u hs hu⟩⟩
theorem Tr{P:Program}{X:Nat->Prop}{w:World}{t:TypeId}{ti:TI}(hT:By P t ti){b off:Nat}{cs:List S}(hc:∀(i:Nat) (s:S),cs[i]?=some s->∃u,w.cell? ⟨b,off+i,none⟩=some u/\rI X w s u)
  {j:Nat} {x:V} (hp:partOf ti cs j=some x) {ρ:Nat->Nat} {hp':Nat->Option lO}:∃v,(loadVar t ⟨b,off+j,none⟩).run P w=.ok v w/\Hc ρ hp' X w x v/\refsV x=[]:=by
 unfold partOf at hp;unfold loadVar;rw[Sem.run_bind,hT.Rd,Result.andThen_ok];split at hp
 ·rename_i aBE;split at hp
  ·rename_i hle;cases hp;rw[if_pos aBE,Sem.run_bind,hT.run_sizeOf,Result.andThen_ok];have hex:∀i,i<ti.size->∃u,w.cell? ⟨b,off+j+i,none⟩=some u/\∀s,cs[j+i]?=some s->rI X w s u:=by
    intro i hi;obtain⟨s,hs⟩:=bV (l:=cs) (i:=j+i) (by omega);obtain⟨u,hu,hr⟩:=hc (j+i) s hs;refine⟨u,by rw[<-hu];congr 2;omega,fun s' sT=>?_⟩;rw[hs]at sT;cases sT;exact hr
   obtain⟨f,hf⟩:∃f:Nat->Value,∀i,i<ti.size->w.cell? ⟨b,off+j+i,none⟩=some (f i)/\∀s,cs[j+i]?=some s->rI X w s (f i) :=
    ⟨fun i=>if h:i<ti.size then Classical.choose (hex i h)else undef,fun i hi=>by simp only[hi,dif_pos];exact Classical.choose_spec (hex i hi)⟩
   have hl:=run_loadCells_list (P:=P) w ⟨b,off+j,none⟩ ((bZX ti.size).map f) (fun i v hv=>by
    have hi:=bB hv;simp at hi;rw[nO,(hf i hi).1];simpa [hi] using hv)
   simp only[cAG,List.length_range]at hl;rw[Sem.run_bind,hl];refine⟨_,rfl,⟨_,rfl,⟨by simp;omega,fun i s u hs hu=>?_⟩⟩,rfl⟩;have hi:=bB hu;simp at hi;have Tv:u=f i:=by simpa [hi] using hu.symm
   subst Tv;refine(hf i hi).2 s ?_;rw[bYS hi,bYZ]at hs;exact hs
  ·cases hp
 ·rename_i aBE;split at hp <;> cases hp;rename_i c bLJ;obtain⟨u,hu,hr⟩:=hc j c bLJ;refine⟨u,?_,hr,rfl⟩;rw[if_neg (by simpa using aBE),run_load,hu]
theorem List.sZ{α:Type}(cs new:List α)(off i:Nat)(h:off+new.length<=cs.length) :
  (cs.take off ++ (new ++ cs.drop (off+new.length)))[i]?=if off<=i/\i<off+new.length then new[i-off]? else cs[i]?:=by
 by_cases h1:i<off
 ·rw[bZY (by simp;omega),bYS h1,bI]
 ·rw[bZZ (by simp;omega)];have e:(cs.take off).length=off:=by simp;omega
  rw[e]
  by_cases h2:i<off+new.length
  ·rw[bZY (by omega),aR]
  ·rw[bZZ (by omega),bI,bYZ];congr 1;omega
theorem Wj{X:Nat->Prop}{w:World}{cs new:List S}{arr:Array Value}{aGN:List Value}(h:zX X w (.cells cs) arr)(hn:jI X w new aGN){off:Nat}(hle:off+new.length<=cs.length) :
  zX X w (.cells (setAt cs off new)) (arr.toList.take off ++ (aGN ++ arr.toList.drop (off+aGN.length))).toArray:=by
 have h1:=h.1;have h2:off+aGN.length<=arr.toList.length:=by rw[<-hn.1];simp;omega
 refine⟨by simp[setAt];have:=hn.1;omega,fun i s hs=>?_⟩;unfold setAt at hs;rw[List.sZ _ _ _ _ hle]at hs;have e:(arr.toList.take off ++ (aGN ++ arr.toList.drop (off+aGN.length))).toArray[i]?=(arr.toList.take off ++ (aGN ++ arr.toList.drop (off+aGN.length)))[i]?:=by simp
 rw[e,List.sZ _ _ _ _ h2,<-hn.1];split at hs
 ·rename_i hi;rw[if_pos hi];have jM:=bB hs;rw[hn.1]at jM;obtain⟨u,hu⟩:=bV jM;exact⟨u,hu,hn.2 _ s u hs hu⟩
 ·rename_i hi;rw[if_neg hi];obtain⟨u,hu,hr⟩:=h.2 i s hs;exact⟨u,by simpa using hu,hr⟩
theorem aAC{X:Nat->Prop}{w:World}{cs new:List S}{vs aGN:List Value}(h:jI X w cs vs)(hn:jI X w new aGN){off:Nat}(hle:off+new.length<=cs.length) :
  jI X w (setAt cs off new) (vs.take off ++ (aGN ++ vs.drop (off+aGN.length))):=by
 have h1:=h.1;have h2:=hn.1;refine⟨by unfold setAt;simp;omega,fun i s u hs hu=>?_⟩;unfold setAt at hs;rw[List.sZ cs new off i hle]at hs;rw[List.sZ vs aGN off i (by omega)]at hu
 by_cases hi:off<=i/\i<off+new.length
 ·rw[if_pos hi]at hs;rw[aR]at hu;exact hn.2 _ s u hs hu
 ·rw[if_neg hi]at hs;rw[bI]at hu;exact h.2 _ s u hs hu
end AI
namespace AI
open Go Go.RowKit
def pY(al:Nat->Prop)(id:Nat):Nat->Prop:=fun i=>al i\/(id<=i/\i<id+8)
section
variable {P:Program} {E:Env} {X:Nat->Prop} {w0:Old} {ρ:Nat->Nat} {al:Nat->Prop} {fr:Nat->A} {hp:Nat->Option lO} {a:Act} {w:World} {o:Oper} {id:Nat} {x:A} {u:sU}
def kW(P:Program)(E:Env)(X:Nat->Prop)(w0:Old)(al:Nat->Prop)(fr:Nat->A)(hp:Nat->Option lO)(a:Act)(w:World)(o:Oper)(id:Nat)(x:A)(u:sU):Prop :=
 ∃ρ' v w',((execOp a.eval o).run P w=.ok (.value v) w'\/((execOp a.eval o).run P w=.ok .skip w'/\v=undef))/\jX E X w0 ρ' (pY al id) (Ei o x fr) (applyUps u hp) (a.put o.dst v) w'
theorem jX.more(h:jX E X w0 ρ al fr hp a w)(id:Nat):jX E X w0 ρ (pY al id) fr hp a w :=
 { fr:=h.fr,sz:=h.sz,nod:=h.nod,blk:=h.blk,inj:=h.inj,alh:=fun i b hb=>.inl (h.alh i b hb),alr:=fun t i hi=>.inl (h.alr t i hi),below:=h.below,x0:=h.x0,glob:=h.glob,mg:=h.mg,al0:=fun i hi=>.inl (h.al0 i hi),pK:=h.pK }
theorem dJ(h:jX E X w0 ρ al fr hp a w)(hd:kD E.nt o=true){v:Value}(hI:(execOp a.eval o).run P w=.ok (.value v) w)(hx:zY ρ hp (XO X ρ hp) w x v)(bDG:∀i∈refs x,al i) :
  kW P E X w0 al fr hp a w o id x [] :=
 ⟨ρ,v,w,.inl hI,(h.more id).pure hd hx (fun i hi=>.inl (bDG i hi))⟩
theorem oK(v:Value):refs (Dh v)=[]:=rfl
theorem Yi(h:jX E X w0 ρ al fr hp a w)(hd:kD E.nt o=true){y:Operand}(ho:o.op=.move y\/o.op=.assign y)(he:tM E id o (evA E fr) hp=some (x,u)):kW P E X w0 al fr hp a w o id x u:=by
 have h1:=h.ev y;rcases ho with ho |ho
 all_goals
  unfold tM effK at he;rw[ho]at he;cases he;exact dJ h hd (v:=a.eval y) (by unfold execOp;rw[ho];rfl) h1.1 h1.2
theorem aNA(h:jX E X w0 ρ al fr hp a w)(hd:kD E.nt o=true){c y z:Operand}(ho:o.op=.pick c y z)(he:tM E id o (evA E fr) hp=some (x,u)):kW P E X w0 al fr hp a w o id x u:=by
 have hc:=(h.ev c).1;have hy:=h.ev y;have hz:=h.ev z;have hI:∀t,a.eval c=.bool t->(execOp a.eval o).run P w=.ok (.value (if t then a.eval y else a.eval z)) w:=by
  intro t ht;unfold execOp;rw[ho];simp[ht,asBool]
 unfold tM effK at he;rw[ho]at he;simp only at he;split at he
 ·rename_i t bLG;rw[bLG]at hc;have aYR:a.eval c=.bool t:=hc.1;split at he
  ·rename_i p q Ie Tx;cases he;rw[Ie]at hy;rw[Tx]at hz;have e1:a.eval y=.bool p:=hy.1.1;have e2:a.eval z=.bool q:=hz.1.1;refine dJ h hd (hI t aYR) ?_ (by simp[oK]);rw[e1,e2];cases t <;> exact⟨rfl,rfl⟩
  ·cases t <;> cases he
   ·exact dJ h hd (hI false aYR) (by simpa using hz.1) hz.2
   ·exact dJ h hd (hI true aYR) (by simpa using hy.1) hy.2
 ·cases he
theorem tC(id:Nat):pY al id id:=.inr ⟨bYN _,by omega⟩
theorem Md(e:TypeId)(v:Value):(newVar e v).run P w=.ok ⟨w.heap.size,0,none⟩ (w.alloc (.cells v.cells e)):=rfl
theorem aHN(h:jX E X w0 ρ al fr hp a w)(hd:kD E.nt o=true)(hT:qE P E.T)(yB:∀j,j<8->¬al (id+j)){e:TypeId}(ho:o.op=.alloc e)(he:tM E id o (evA E fr) hp=some (x,u)):kW P E X w0 al fr hp a w o id x u:=by
 unfold tM effK at he;rw[ho]at he;simp only at he;split at he
 ·rename_i ti yR;cases he;have ht:=hT e ti yR;obtain⟨z,hz,Pz⟩:=ht.aKI (w:=w);have Jy:zX (XO X ρ hp) w (.cells (ti.zero.map (wideS E.wide))) z.cells:=by
   refine jI.cells ?_;rw[Pz];exact aIX E.wide ht.zo
  have h1:=h.alloc (id:=id) (al':=pY al id) (yB 0 (by omega)) (fun _ h=>.inl h) (tC id) e _ _ Jy;refine⟨_,.pointer (some ⟨w.heap.size,0,none⟩),_,.inl ?_,h1.pure hd (x:=.v (.one (.ptr id 0))) ?_ ?_⟩
  ·unfold execOp;rw[ho];simp only[Instr.alloc,Sem.run_bind,hz,Result.andThen_ok,Sem.run_pure,Md]
  ·show _=_;rw[cH]
  ·intro i hi;simp only[refs,refsV,refsL,bZE]at hi;subst hi;exact tC i
 ·cases he
theorem aSU(h:jX E X w0 ρ al fr hp a w)(hd:kD E.nt o=true)(yB:∀j,j<8->¬al (id+j)){e:TypeId}{y:Operand}(ho:o.op=.box e y)(he:tM E id o (evA E fr) hp=some (x,u)):kW P E X w0 al fr hp a w o id x u:=by
 unfold tM effK at he;rw[ho]at he;simp only at he;split at he
 ·rename_i ti cs u1 yR Xx;split at he <;> cases he;obtain⟨hu,Jy⟩:=xK h (h.ev y).1 Xx;have h0:=h.cons hu;have h1:=h0.alloc (id:=id) (al':=pY al id) (yB 0 (by omega)) (fun _ h=>.inl h) (tC id) e (.cells cs) _ Jy.cells;unfold kW;rw[mM];refine⟨_,.pointer (some ⟨w.heap.size,0,none⟩),_,.inl ?_,h1.pure hd (x:=.v (.one (.ptr id 0))) ?_ ?_⟩
  ·unfold execOp;rw[ho];simp only[Instr.box,Sem.run_bind,Result.andThen_ok,Sem.run_pure,Md]
  ·show _=_;rw[cH]
  ·intro i hi;simp only[refs,refsV,refsL,bZE]at hi;subst hi;exact tC i
 ·cases he
theorem aNB(h:jX E X w0 ρ al fr hp a w)(hd:kD E.nt o=true)(hT:qE P E.T){t:TypeId}{y:Operand}(ho:o.op=.load t y)(he:tM E id o (evA E fr) hp=some (x,u)):kW P E X w0 al fr hp a w o id x u:=by
 have hy:=(h.ev y).1;have hI:∀ad v,a.eval y=.pointer (some ad)->(loadVar t ad).run P w=.ok v w->(execOp a.eval o).run P w=.ok (.value v) w:=by
  intro ad v h1 h2;unfold execOp;rw[ho];simp only[h1,Instr.loadAt,Instr.sureAddr,Sem.run_bind,Sem.run_pure,Result.andThen_ok,h2]
 unfold tM effK at he;rw[ho]at he;simp only at he;split at he
 ·rename_i ti yR;have ht:=hT t ti yR;split at he
  ·rename_i i off jU;rw[jU]at hy;have hy:a.eval y=.pointer (some ⟨ρ i,off,none⟩):=hy;split at he
   ·rename_i e cs hb;obtain⟨_,arr,hg,hc⟩:=h.blk i _ hb;split at he <;> cases he;rename_i v hv;obtain⟨v',h1,h2,h3⟩:=Tr (P:=P) ht (b:=ρ i) (off:=0) (cs:=cs) (fun j s hs=>by
     obtain⟨u,hu,hr⟩:=hc.2 j s hs;exact⟨u,by rw[cell_of_row w (ρ i) _ arr e (0,0) hg];simpa using hu,hr⟩) hv (ρ:=ρ) (hp':=hp)
    rw[bYP]at h1;exact dJ h hd (hI _ _ hy h1) h2 (by simp[refs,h3])
   ·cases he
  ·rename_i i j jU;rw[jU]at hy;obtain⟨hy,jM⟩:=hy;split at he
   ·rename_i e k ns hb aBE;cases he;have hj:=jM _ k ns hb rfl;have hc:=h.zM hb (bZD hj);refine dJ h hd (v:=.int k (ns.getD j 0)) (hI _ _ hy ?_) ⟨rfl,rfl⟩ (by simp[oK]);unfold loadVar;rw[Sem.run_bind,ht.Rd,Result.andThen_ok,if_neg (by simp[aBE]),run_load,hc];simp[cAH,hj]
   ·cases he
  ·rename_i cs jU;rw[jU]at hy;obtain⟨b,off,hy,hc⟩:=hy;split at he <;> cases he;rename_i v hv;obtain⟨v',h1,h2,h3⟩:=Tr (P:=P) ht (b:=b) (off:=off) (cs:=cs) (fun j s hs=>by
    obtain⟨_,_,u,hu,hr⟩:=hc j s hs;exact⟨u,hu,hr⟩) hv (ρ:=ρ) (hp':=hp)
   rw[bZO]at h1;exact dJ h hd (hI _ _ hy h1) h2 (by simp[refs,h3])
  ·cases he
 ·cases he
theorem mL{g:Nat}{arr:Array Value}{e:TypeId}{f:Nat×Nat}(h:w.heap[g]?=some (.cells arr e f)):nB w g=arr.size:=by unfold nB;rw[h]
theorem aHH(h:jX E X w0 ρ al fr hp a w)(hd:kD E.nt o=true)(hT:qE P E.T){t:TypeId}{y z:Operand}(ho:o.op=.store t y z)(he:tM E id o (evA E fr) hp=some (x,u)):kW P E X w0 al fr hp a w o id x u:=by
 have hy:=(h.ev y).1;have hz:=(h.ev z).1;have hI:∀ad w',a.eval y=.pointer (some ad)->(storeVar t ad (a.eval z)).run P w=.ok () w'->(execOp a.eval o).run P w=.ok .skip w':=by
  intro ad w' h1 h2;unfold execOp;rw[ho];simp only[h1,Instr.storeAt,Instr.sureAddr,Sem.run_bind,Sem.run_pure,Result.andThen_ok,h2]
 unfold tM effK at he;rw[ho]at he;simp only at he;split at he
 ·rename_i ti yR;have ht:=hT t ti yR;split at he
  ·rename_i i off jU;rw[jU]at hy;have hy:a.eval y=.pointer (some ⟨ρ i,off,none⟩):=hy;split at he
   ·rename_i e cs new u1 hb bVM;split at he <;> cases he;rename_i Nh;obtain⟨Jn,bBI,bTM⟩:=Nh;obtain⟨hu,Jy⟩:=xK h hz bVM;have h0:=h.cons hu;have hb0:applyUps u1 hp i=some ⟨e,.cells cs⟩:=by
     have:∀(u:sU) (hp:Nat->Option lO),(u.all fun p=>p.1 !=i)=true->applyUps u hp i=hp i:=by
      intro u
      induction u with
      |nil=>intros;rfl
      |cons p u ih =>
       intro hp Bn;obtain⟨j,c⟩:=p;simp only[List.all_cons,bYT,bne_iff_ne]at Bn;rw[applyUps,ih _ Bn.2,gK _ _ (fun e=>Bn.1 e.symm)]
     rw[this u1 hp bTM];exact hb
    obtain⟨_,arr,hg,hc⟩:=h0.blk i _ hb0;have uJ:cs.length<=arr.size:=hc.1;have bJN:(a.eval z).cells.size=new.length:=by have:=Jy.1;simpa using this.symm
    have Qa:∀v∈(a.eval z).cells.toList,v.oneCell'=true:=by
     intro v hv;obtain⟨k,hk⟩:=bZL hv;obtain⟨s,hs⟩:=bV (l:=new) (i:=k) (by rw[Jy.1];exact bB hk);exact(Jy.2 k s v hs hk).one
    have aGV:=run_storeCells_at P (ρ i) off e (a.eval z).cells.toList 0 arr w hg (by simp;omega) Qa;simp only[bZO]at aGV;have h1:=h0.setRow hb0 (.cells (setAt cs off new)) (arr.toList.take off ++ ((a.eval z).cells.toList ++ arr.toList.drop (off+(a.eval z).cells.toList.length))).toArray
     ⟨fun k ns e=>(by cases e),fun Ns e=>by cases e;exact⟨cs,rfl,by simp[setAt];omega⟩⟩ (by rw[mL hg];simp;omega) (Wj hc Jy bBI)
    unfold kW;rw[mM];refine⟨ρ,undef,_,.inr ⟨hI _ _ hy ?_,rfl⟩,(h1.more id).pure hd (x:=.any) trivial (by simp[refs])⟩;unfold storeVar;rw[Sem.run_bind,ht.run_sizeOf,Result.andThen_ok,if_neg (by rw[bJN,Jn];simp),aGV];simp[cAI]
   ·cases he
  ·rename_i i j jU;rw[jU]at hy;obtain⟨hy,jM⟩:=hy;split at he
   ·rename_i e k ns k' n hb bVG;split at he <;> cases he;rename_i hk;obtain⟨rfl,Zq⟩:=hk;have hj:=jM _ k ns hb rfl;rw[bVG]at hz;have hz:a.eval z=.int k n:=hz.1;obtain⟨_,arr,hg,hc⟩:=h.blk i _ hb;have bPF:j<arr.size:=bZN hj hc.1;have aGV:=run_storeCells_at P (ρ i) j e [.int k n] 0 arr w hg (by simp;omega) (by simp[Value.oneCell']);simp only[bZO]at aGV;have aXW:(arr.toList.take j ++ [Value.int k n] ++ arr.toList.drop (j+[Value.int k n].length)).toArray=arr.setIfInBounds j (.int k n):=by
     apply Array.ext';simp only[Array.toList_setIfInBounds,List.length_cons,List.length_nil];rw[List.set_eq_take_append_cons_drop,if_pos (by simpa using bPF)];simp
    rw[aXW]at aGV;have h1:=h.setRow hb (.ints k (ns.set j n)) (arr.setIfInBounds j (.int k n)) ⟨fun k1 Zn e=>(by cases e;exact⟨k,ns,rfl,by simp⟩),fun Ns e=>(by cases e)⟩ (by rw[mL hg];simp) (by
     refine⟨by simpa using hc.1,fun l m hl=>?_⟩;rw[List.getElem?_set]at hl;rw[Array.getElem?_setIfInBounds];split at hl
     ·rename_i aLT;subst aLT;rw[if_pos rfl,if_pos bPF];first | (cases hl;rfl) | (split at hl <;> cases hl;rfl)
     ·rename_i aLT;rw[if_neg aLT];exact hc.2 l m hl)
    refine⟨ρ,undef,_,.inr ⟨hI _ _ hy ?_,rfl⟩,(h1.more id).pure hd (x:=.any) trivial (by simp[refs])⟩;unfold storeVar;rw[Sem.run_bind,ht.run_sizeOf,Result.andThen_ok,hz,if_neg (by simp[Value.cells,Zq])];exact aGV
   ·cases he
  ·cases he
 ·cases he
theorem Gw{u:sU}(hu:Cons u)(hp:Nat->Option lO)(i:Nat):applyUps u hp i=if i∈u.map (·.1)then none else hp i:=by
 induction u generalizing hp with
 |nil=>rfl
 |cons p u ih =>
  obtain⟨j,c⟩:=p;have hc:c=none:=hu (j,c) (by simp);subst hc;rw[applyUps,ih (fun p hp=>hu p (by simp[hp]))]
  by_cases bBJ:i=j
  ·subst bBJ;rw[cH];simp
  ·rw[gK _ _ bBJ];simp only[bYM,bZT,bBJ,false_or]
theorem jI.Rt{cs:List S}{vs:List Value}{u1 u2:sU}(h1:Cons u1)(h2:Cons u2)(hs:∀i,i∈u1.map (·.1)->i∈u2.map (·.1))(h:jI (XO X ρ (applyUps u1 hp)) w cs vs):jI (XO X ρ (applyUps u2 hp)) w cs vs:=by
 refine h.later ⟨bYN _,fun b _ hx=>⟨rfl,fun ho=>hx (ho.imp (fun h=>h) ?_)⟩⟩;rintro ⟨i,bl,hb,hr⟩;refine⟨i,bl,?_,hr⟩;rw[Gw h2]at hb;rw[Gw h1];split at hb
 ·cases hb
 ·rename_i hn;rw[if_neg (fun h=>hn (hs i h))];exact hb
theorem Ya(off:Nat):∀(vs:List Value) (k:Nat) (arr:Array Value),off+k+vs.length<=arr.size ->
  ((vs.zipIdx k).foldl (fun cs p=>cs.setIfInBounds (off+p.2) p.1) arr).toList=arr.toList.take (off+k) ++ vs ++ arr.toList.drop (off+k+vs.length)
 | [],k,arr,_=>by simp
 |v :: vs,k,arr,h=>by
  simp only[List.zipIdx_cons,List.foldl_cons];rw[Ya off vs (k+1) (arr.setIfInBounds (off+k) v) (by simp at h ⊢;omega)];simp only[Array.toList_setIfInBounds];have:=list_seg_step arr.toList (off+k) v vs (by simp at h ⊢;omega);simpa [Nat.add_assoc] using this
theorem oC{R:Type}(hp:Nat->Option lO)(place:Nat->Option (Nat×Nat))(ev:Operand->A)(parts:List (Nat×Operand))(cs:List S)(u:sU)(K:List S->sU->Option R) :
  fillK hp place ev parts cs u K=(fillK hp place ev parts cs u (fun cs u=>some (cs,u))).bind fun r=>K r.1 r.2:=by
 induction parts generalizing cs u with
 |nil=>rfl
 |cons p rest ih =>
  obtain⟨i,y⟩:=p;simp only[fillK];split
  ·split
   ·exact ih _ _
   ·rfl
  ·rfl
theorem zI(h:jX E X w0 ρ al fr hp a w)(place:Nat->Option (Nat×Nat)):∀(parts:List (Nat×Operand)) (cs:List S) (u:sU) (arr:Array Value) (Ns:List S) (u':sU),
  Cons u->jI (XO X ρ (applyUps u hp)) w cs arr.toList->fillK hp place (evA E fr) parts cs u (fun cs u=>some (cs,u))=some (Ns,u') ->
  Cons u'/\∃pS,Instr.fill place arr (parts.map fun p=>(p.1,a.eval p.2))=some pS/\jI (XO X ρ (applyUps u' hp)) w Ns pS.toList/\pS.size=arr.size
 | [],cs,u,arr,Ns,u',hu,hr,he=>by cases he;exact⟨hu,arr,rfl,hr,rfl⟩
 | (i,y) :: rest,cs,u,arr,Ns,u',hu,hr,he=>by
  simp only[fillK]at he;split at he
  ·rename_i off size new u1 aAY bVN;split at he
   ·rename_i Nh;obtain⟨aIO,hn⟩:=xK h (h.ev y).1 bVN;have uJ:(a.eval y).cells.size=size:=by have:=hn.1;simp at this;omega
    have hle:off+(a.eval y).cells.size<=arr.size:=by have:=hr.1;simp at this;omega
    have bLF:Cons (u ++ u1):=fun p hp=>(List.mem_append.1 hp).elim (hu p) (aIO p)
    have bTU:jI (XO X ρ (applyUps (u ++ u1) hp)) w cs arr.toList:=hr.Rt hu bLF (fun i hi=>by simp only[bZM,bZP];exact .inl hi);have aGY:jI (XO X ρ (applyUps (u ++ u1) hp)) w new (a.eval y).cells.toList:=hn.Rt aIO bLF (fun i hi=>by simp only[bZM,bZP];exact .inr hi);have aXU:=aAC bTU aGY Nh.2;have bER:=Ya off (a.eval y).cells.toList 0 arr (by simpa using hle);obtain⟨aBY,aVK⟩:∃aBY,aBY=(a.eval y).cells.zipIdx.foldl (fun cs p=>cs.setIfInBounds (off+p.2) p.1) arr:=⟨_,rfl⟩;have Jn:aBY.toList=arr.toList.take off ++ ((a.eval y).cells.toList ++ arr.toList.drop (off+(a.eval y).cells.toList.length)):=by
     rw[aVK,<-Array.foldl_toList,Array.toList_zipIdx,bER];simp[cAI]
    rw[<-Jn]at aXU;have bJS:aBY.size=arr.size:=by
     have:aBY.toList.length=arr.toList.length:=by rw[Jn];simp;omega
     simpa using this
    obtain⟨bLE,pS,hf,Jy,hs⟩:=zI h place rest (setAt cs off new) (u ++ u1) aBY Ns u' bLF aXU he;refine⟨bLE,pS,?_,Jy,hs.trans bJS⟩;rw[bYM,Instr.fill,aAY];simp only;rw[if_neg (by simp;omega)];have e:(Array.foldl (fun cs (x:Value×Nat)=>match x with | (c,j)=>cs.setIfInBounds (off+j) c) arr (a.eval y).cells.zipIdx)=aBY:=aVK.symm;rw[e];exact hf
   ·cases he
  ·cases he
theorem Bf{α β:Type}{f:α->Option β}:∀{l:List α} {r:List β},l.mapM f=some r->r.length=l.length
 | [],r,h=>by simp at h;subst h;rfl
 |x :: l,r,h=>by
  rw[bZU]at h;simp only[cAS,cAT,cAU,Option.some.injEq]at h;obtain⟨y,_,ys,bSZ,rfl⟩:=h;simp[Bf bSZ]
theorem aHL(h:jX E X w0 ρ al fr hp a w)(hd:kD E.nt o=true)(hT:qE P E.T){t:TypeId}{parts:Array (Nat×Operand)}(ho:o.op=.build t parts)(he:tM E id o (evA E fr) hp=some (x,u)):kW P E X w0 al fr hp a w o id x u:=by
 have fin:∀(pS:Array Value) cs u,(execOp a.eval o).run P w=.ok (.value (.agg pS)) w->Cons u->jI (XO X ρ (applyUps u hp)) w cs pS.toList->kW P E X w0 al fr hp a w o id (.v (.agg cs)) u:=by
  intro pS cs u hI hu Jy;exact⟨ρ,.agg pS,w,.inl hI,((h.cons hu).more id).pure hd ⟨pS,rfl,Jy⟩ (by simp[refs,refsV])⟩
 have hex:∀r,(Instr.build t (parts.map fun p=>(p.1,a.eval p.2))).run P w=.ok r w->(execOp a.eval o).run P w=.ok (.value r) w:=by
  intro r hr;unfold execOp;rw[ho];simp only[Sem.run_bind];rw[hr];rfl
 unfold tM effK at he;rw[ho]at he;simp only at he;split at he
 ·rename_i size bytes zero fs yR;have ht:=hT t _ yR;obtain⟨i,hi,_,_,z,hz,Pz⟩:=ht.i;obtain⟨d,vQ,fields,rfl,bKV,hf⟩:=ht.d;rw[oC]at he;obtain⟨⟨cs,u2⟩,Xv,he⟩:=Option.bind_eq_some_iff.1 he;cases he;obtain⟨hu,pS,h1,h2,h3⟩:=zI h _ parts.toList _ [] z.cells cs u2 (fun p hp=>by cases hp) (by rw[Pz];exact Wa ht.zo) Xv;refine fin pS cs u2 (hex _ ?_) hu h2;obtain⟨xF,aAY,bUC⟩:∃xF:List (Nat×Nat),fields.toList.mapM (fun f=>(P.info? f.type).map fun i=>(f.offset,i.size))=some xF/\∀(k:Nat) (p:Nat×Nat),xF[k]?=some p->(fs[k]?).map (fun(f:Nat×Nat×Bool)=>(f.1,f.2.1))=some p:=by
   have:∀(l:List Field) (s:Nat),(∀(k:Nat) (f:Field),l[k]?=some f->∃fi fd,P.info? f.type=some fi/\P.underlying f.type=some fd/\fs[s+k]?=some (f.offset,fi.size,uI fd)) ->
     ∃xF:List (Nat×Nat),l.mapM (fun f=>(P.info? f.type).map fun i=>(f.offset,i.size))=some xF/\∀(k:Nat) (p:Nat×Nat),xF[k]?=some p->(fs[s+k]?).map (fun(f:Nat×Nat×Bool)=>(f.1,f.2.1))=some p:=by
    intro l
    induction l with
    |nil=>intro s _;exact⟨[],rfl,fun k p hk=>by simp at hk⟩
    |cons f l ih =>
     intro s hl;obtain⟨fi,fd,e1,e2,e3⟩:=hl 0 f rfl;obtain⟨pl,p1,p2⟩:=ih (s+1) (fun k g hk=>by have:=hl (k+1) g (by simpa using hk);rwa [show s+(k+1)=s+1+k by omega]at this);refine⟨(f.offset,fi.size) :: pl,by simp[bZU,e1,p1],fun k p hk=>?_⟩
     match k with
     |0=>simp at hk;subst hk;simp at e3;simp[e3]
     |k+1=>simp at hk;have:=p2 k p hk;rwa [show s+1+k=s+(k+1) by omega]at this
   obtain⟨pl,p1,p2⟩:=this fields.toList 0 (fun k f hk=>by rw[bYP];exact hf k f (by simpa using hk));exact⟨pl,p1,fun k p hk=>by have:=p2 k p hk;rwa [bYP]at this⟩
  refine run_build w t _ pS ?_;unfold Program.built;simp only[hi,vQ,hz,aAY,Array.toList_map];have Rk:∀(ps:List (Nat×Value)) (arr:Array Value) r,Instr.fill (fun i=>(fs[i]?).map fun(f:Nat×Nat×Bool)=>(f.1,f.2.1)) arr ps=some r->Instr.fill (xF.toArray[·]?) arr ps=some r:=by
   intro ps
   induction ps with
   |nil=>intro arr r h;exact h
   |cons p ps ih =>
    intro arr r h;obtain⟨i,v⟩:=p;unfold Instr.fill at h ⊢;cases hq:xF[i]? with
    |none =>
     have h1:xF.length=fields.size:=by simpa using (Bf aAY)
     have h2:fs[i]?=none:=cAJ (by have:=List.getElem?_eq_none_iff.1 hq;omega);simp[h2]at h
    |some q =>
     have:=bUC i q hq;simp only[this]at h;have bTY:xF.toArray[i]?=some q:=by simp[hq]
     simp only[bTY];obtain⟨o1,s1⟩:=q;simp only at h ⊢;split at h
     ·cases h
     ·rename_i hc;rw[if_neg hc];exact ih _ _ h
  have e:parts.toList.map (fun p=>(p.1,a.eval p.2))=parts.toList.map (fun x=>(x.fst,a.eval x.snd)):=rfl;rw[e]at h1;exact Rk _ _ _ h1
 ·rename_i size bytes zero len sQ g yR;have ht:=hT t _ yR;obtain⟨i,hi,_,_,z,hz,Pz⟩:=ht.i;obtain⟨d,vQ,e,ei,ed,rfl,aPT,aVG,_,_⟩:=ht.d;rw[oC]at he;obtain⟨⟨cs,u2⟩,Xv,he⟩:=Option.bind_eq_some_iff.1 he;cases he;obtain⟨hu,pS,h1,h2,h3⟩:=zI h _ parts.toList _ [] z.cells cs u2 (fun p hp=>by cases hp) (by rw[Pz];exact Wa ht.zo) Xv;refine fin pS cs u2 (hex _ ?_) hu h2;refine run_build w t _ pS ?_;unfold Program.built;simp only[hi,vQ,hz,aPT,Array.toList_map];subst aVG;exact h1
 ·cases he
end
end AI
namespace AI
open Go Go.RowKit
section
variable {P:Program} {E:Env} {X:Nat->Prop} {w0:Old} {ρ:Nat->Nat} {al:Nat->Prop} {fr:Nat->A} {hp:Nat->Option lO} {a:Act} {w:World} {o:Oper} {id:Nat} {x:A} {u:sU}
theorem Jw(w:World)(t e:TypeId)(len:Nat)(parts:Array (Nat×Value))(cells:Array Value)(ie:TypeInfo)(z:Value)
  (hu:P.underlying t=some (.slice e)) (bPG:P.info? e=some ie) (hz:ie.zero=some z) (aXV:¬len*ie.size>2^24)
  (h:Instr.fill (fun i=>some (i*ie.size,ie.size)) ((Array.range (len*ie.size)).map (z.cells[·%z.cells.size]!)) parts.toList=some cells) :
  (Instr.buildSlice t len parts).run P w=.ok (.slice (some ⟨w.heap.size,0,none⟩) len len) (w.alloc (.cells cells e)):=by
 by_cases qI:len*ie.size=0
 ·rw[qI]at h;have hr:∀f:Nat->Value,(Array.range 0).map f=#[]:=fun f=>by rw[show Array.range 0=(#[]:Array Nat)from by simp];simp
  rw[hr]at h;simp[Instr.buildSlice,run_underlying hu,sizeOf,typeInfo,bPG,qI,hr,h,newRow]
 ·simp[Instr.buildSlice,run_underlying hu,sizeOf,typeInfo,zeroValue,bPG,hz,aXV,qI,h,newRow]
theorem Gx{k:IntKind}:∀{cs:List S} {ns:List Int},allInts k cs=some ns->cs=ns.map fun n=>.sc (.int k n)
 | [],ns,h=>by cases h;rfl
 | .sc (.int k' n) :: r,ns,h=>by
  simp only[allInts]at h;split at h
  ·rename_i hk;subst hk;obtain⟨ms,aRZ,rfl⟩:=Option.map_eq_some_iff.1 h;rw[Gx aRZ];rfl
  ·cases h
 | .ints _ _ :: _,_,h=>by cases h
 | .bot :: _,_,h=>by cases h
 | .sc (.bool _) :: _,_,h=>by cases h
 | .sc (.float _ _) :: _,_,h=>by cases h
 | .sc (.complex _ _ _) :: _,_,h=>by cases h
 | .sc (.string _) :: _,_,h=>by cases h
 | .sc (.pointer _) :: _,_,h=>by cases h
 | .sc (.slice _ _ _) :: _,_,h=>by cases h
 | .sc (.map _) :: _,_,h=>by cases h
 | .sc (.chan _) :: _,_,h=>by cases h
 | .sc (.func _ _ _) :: _,_,h=>by cases h
 | .sc .nilFunc :: _,_,h=>by cases h
 | .sc (.iface _ _) :: _,_,h=>by cases h
 | .sc .nilIface :: _,_,h=>by cases h
 | .sc (.agg _) :: _,_,h=>by cases h
 | .sc (.tuple _) :: _,_,h=>by cases h
theorem Py{Y:Nat->Prop}{k:IntKind}{ns:List Int}{arr:Array Value}(h:jI Y w (ns.map fun n=>.sc (.int k n)) arr.toList):zX Y w (.ints k ns) arr/\arr.size=ns.length:=by
 have hl:ns.length=arr.size:=by have:=h.1;simpa using this
 refine⟨⟨by omega,fun i n hn=>?_⟩,hl.symm⟩;obtain⟨v,hv⟩:=bV (l:=arr.toList) (i:=i) (by have:=bB hn;simp;omega);have:=(h.2 i (.sc (.int k n)) v (by simp[hn]) hv).1;subst this;simpa using hv
theorem Mu{n:Nat}(h:n<=16777216):n<=maxLen:=by unfold maxLen;omega
theorem Np(h:jX E X w0 ρ al fr hp a w)(hd:kD E.nt o=true)(hT:qE P E.T)(yB:∀j,j<8->¬al (id+j)){t:TypeId}{len:Nat}{parts:Array (Nat×Operand)}(ho:o.op=.buildSlice t len parts)(he:tM E id o (evA E fr) hp=some (x,u)):kW P E X w0 al fr hp a w o id x u:=by
 unfold tM effK at he;rw[ho]at he;simp only at he;split at he
 ·rename_i s0 b0 z0 e yR;have ht:=hT t _ yR;obtain⟨d,vQ,Fk⟩:=ht.d;have Fk:d=.slice e:=Fk;subst Fk;split at he
  ·rename_i size bytes zero kind Po;have Mz:=hT e _ Po;obtain⟨ie,hi,uJ,_,z,hz,Pz⟩:=Mz.i;have uJ:ie.size=size:=uJ;have Pz:z.cells.toList=zero:=Pz;have bOD:zero.length=size:=Mz.zl;split at he
   ·rename_i Nh;obtain⟨Zq,Pp⟩:=Nh;rw[oC]at he;obtain⟨⟨cs,u2⟩,Xv,he⟩:=Option.bind_eq_some_iff.1 he;simp only at he;have bEK:jI (XO X ρ (applyUps [] hp)) w ((bZX (len*size)).map fun i=>S.sc (zero.getD (i%size) undef)) ((Array.range (len*ie.size)).map (z.cells[·%z.cells.size]!)).toList:=by
     refine⟨by simp[uJ],fun i s v hs hv=>?_⟩;have hi:=bB hs;simp at hi;have aUV:z.cells.size=size:=by rw[<-bOD,<-Pz];simp
     have hm:i%size<zero.length:=by rw[bOD];exact Nat.mod_lt _ Pp
     simp[hi]at hs;subst hs;have aSB:i%size<z.cells.size:=by rw[aUV];exact Nat.mod_lt _ Pp
     simp[uJ,hi,aUV]at hv;have e1:z.cells[i%size]! = zero[i%size]:=by
      rw[getElem!_pos z.cells (i%size) aSB];simp[<-Pz]
     rw[e1]at hv;subst hv;have e2:zero[i%size]?.getD undef=zero[i%size]:=by simp[hm]
     rw[e2];exact⟨rfl,Mz.zo _ (List.getElem_mem hm)⟩
    obtain⟨hu,pS,h1,h2,h3⟩:=zI h _ parts.toList _ [] _ cs u2 (fun p hp=>by cases hp) bEK Xv;have h3:pS.size=len*size:=by rw[h3];simp[uJ]
    have hI:=Jw (P:=P) w t e len (parts.map fun p=>(p.1,a.eval p.2)) pS ie z vQ hi hz (by rw[uJ];omega) (by rw[Array.toList_map];subst uJ;exact h1);have hex:(execOp a.eval o).run P w=.ok (.value (.slice (some ⟨w.heap.size,0,none⟩) len len)) (w.alloc (.cells pS e)):=by
     unfold execOp;rw[ho];simp only[Sem.run_bind];rw[hI];rfl
    have h0:=h.cons hu;have fin:∀c,zX (XO X ρ (applyUps u2 hp)) w c pS->(∀k ns,c=.ints k ns->len=ns.length/\pS.size=len)->(∀Ns,c=.cells Ns->Ns.length=len*size) ->
      kW P E X w0 al fr hp a w o id (.v (.one (.buf id len))) (u2 ++ [(id,some ⟨e,c⟩)]):=by
     intro c hc hints lA;have h1:=h0.alloc (id:=id) (al':=pY al id) (yB 0 (by omega)) (fun _ h=>.inl h) (tC id) e c pS hc;unfold kW;rw[mM];refine⟨_,_,_,.inl hex,h1.pure hd (x:=.v (.one (.buf id len))) ?_ ?_⟩
     ·refine⟨len,by rw[cH],bYN _,fun blk k ns hb hk=>?_,fun blk Ns hb hk=>?_⟩
      rotate_left
      ·rw[cH]at hb;cases hb;refine⟨size,lA Ns hk,?_,Mu ?_⟩
       ·rw[cH,mL (yD w _)];omega
       ·have:len<=len*size:=cAW _ Pp;omega
      rw[cH]at hb;cases hb;obtain⟨h5,h6⟩:=hints k ns hk;refine⟨h5,Mu ?_,?_⟩
      ·have:len<=len*size:=cAW _ Pp;omega
      ·rw[cH,mL (yD w _)];omega
     ·intro i hi;simp only[refs,refsV,refsL,bZE]at hi;subst hi;exact tC i
    split at he
    ·split at he <;> cases he;rename_i k ns Bn;have Xx:=Gx Bn;rw[Xx]at h2;obtain⟨h5,h6⟩:=Py h2;refine fin _ h5 (fun k1 Zn e1=>?_) (fun Ns e1=>by cases e1);cases e1;simp at h3;exact⟨by omega,h3⟩
    ·cases he;exact fin _ h2.cells (fun k ns e1=>by cases e1) (fun Ns e1=>by cases e1;have:=h2.1;simp at this;omega)
   ·cases he
  ·cases he
 ·cases he
theorem aHG{X:Nat->Prop}{w:World}(hT:qE P E.T){t:TypeId}{cs ds:List S}{q:Bool}(he:eqAgg (E.T t) cs ds=some q){xs ys:Array Value}(hx:jI X w cs xs.toList)(hy:jI X w ds ys.toList) :
  (∀y z,(do eqGuard .eql t y z (.agg xs) (.agg ys);binOp .eql t (.agg xs) (.agg ys):Sem Value).run P w=.ok (.bool q) w)/\(∀y z,(do eqGuard .neq t y z (.agg xs) (.agg ys);binOp .neq t (.agg xs) (.agg ys):Sem Value).run P w=.ok (.bool (!q)) w):=by
 unfold eqAgg at he;split at he
 ·rename_i ti yR;split at he
  ·rename_i ks bUL;have bQK:∀{cs:List S} {xs:Array Value},jI X w cs xs.toList->∀(j:Nat) (c:Value),cs[j]?=some (.sc c)->xs[j]?=some c:=by
    intro cs xs h j c hc;have jM:j<xs.toList.length:=by rw[<-h.1];exact(List.getElem?_eq_some_iff.1 hc).1
    have hv:xs.toList[j]?=some xs.toList[j]:=bZD jM;have:=(h.2 j _ _ hc hv).1;rw[this]at hv;simpa using hv
   exact aZJ ((hT t ti yR).eq ks bUL) he (bQK hx) (bQK hy)
  ·cases he
 ·cases he
theorem aHM(h:jX E X w0 ρ al fr hp a w)(hd:kD E.nt o=true)(hT:qE P E.T){op:BinOp}{t t':TypeId}{y z:Operand}(ho:o.op=.binOp op t y z t')(he:tM E id o (evA E fr) hp=some (x,u)):kW P E X w0 al fr hp a w o id x u:=by
 have hy:=(h.ev y).1;have hz:=(h.ev z).1;unfold tM effK at he;rw[ho]at he;simp only at he;split at he
 ·rename_i p q Ie Tx;rw[Ie]at hy;rw[Tx]at hz;have e1:a.eval y=p:=hy.1;have e2:a.eval z=q:=hz.1;cases hb:boolT (E.T t) p with
  |false=>rw[hb]at he;cases he
  |true =>
   rw[hb]at he;simp only[cond_true]at he;rw[Ir]at he;obtain⟨r,hr,he⟩:=Option.bind_eq_some_iff.1 he;cases he;obtain⟨h1,h2⟩:=aHV (P:=P) op t y z p q r w (fun b bUD=>by
    subst bUD;unfold boolT at hb;simp only at hb;split at hb
    ·rename_i s0 b0 z0 yR;obtain⟨d,bHJ,bBR⟩:=(hT t _ yR).d;have bBR:d=.bool:=bBR;subst bBR;exact bHJ
    ·cases hb) hr
   refine dJ h hd (v:=r) ?_ ⟨rfl,h2⟩ (by simp[oK]);unfold execOp;rw[ho];simp only[e1,e2];rw[Sem.run_bind,h1];rfl
 ·rename_i cs ds Ie Tx;rw[Ie]at hy;rw[Tx]at hz;cases hb:eqAgg (E.T t) cs ds with
  |none=>rw[hb]at he;cases he
  |some b =>
   rw[hb]at he;simp only at he;obtain⟨xs,e1,rx⟩:∃arr,a.eval y=.agg arr/\_:=hy;obtain⟨ys,e2,ry⟩:∃arr,a.eval z=.agg arr/\_:=hz;have hI:=aHG (P:=P) hT hb rx ry;cases op <;> simp only at he <;> cases he
   ·refine dJ h hd (v:=.bool b) ?_ ⟨rfl,rfl⟩ (by simp[oK]);unfold execOp;rw[ho];simp only[e1,e2];rw[Sem.run_bind,hI.1];rfl
   ·refine dJ h hd (v:=.bool (!b)) ?_ ⟨rfl,rfl⟩ (by simp[oK]);unfold execOp;rw[ho];simp only[e1,e2];rw[Sem.run_bind,hI.2];rfl
 ·cases he
theorem aMZ(h:jX E X w0 ρ al fr hp a w)(hd:kD E.nt o=true){op:UnOp}{t:TypeId}{y:Operand}(ho:o.op=.unOp op t y)(he:tM E id o (evA E fr) hp=some (x,u)):kW P E X w0 al fr hp a w o id x u:=by
 have hy:=(h.ev y).1;unfold tM effK at he;rw[ho]at he;simp only at he;split at he
 ·rename_i p Ie;rw[Ie]at hy;have e1:a.eval y=p:=hy.1;rw[Lq]at he;obtain⟨r,hr,he⟩:=Option.bind_eq_some_iff.1 he;cases he;obtain⟨h1,h2⟩:=aJA (P:=P) op p r w hr;refine dJ h hd (v:=r) ?_ ⟨rfl,h2⟩ (by simp[oK]);unfold execOp;rw[ho];simp only[e1,Sem.run_bind,h1,Result.andThen_ok,Sem.run_pure]
 ·cases he
theorem aBT{s d:TypeId}{ds dd:TypeDesc}{k:TK}(h1:P.underlying s=some ds)(h2:P.underlying d=some dd)(h3:Pa P k dd){p r:Value}(h:convK k p some=some r) :
  (convert s d p).run P w=.ok r w/\r.oneCell'=true:=by
 unfold convert;simp only[Sem.run_bind,run_underlying h1,run_underlying h2,Result.andThen_ok];unfold convK at h;split at h
 ·have h3:dd=.int _:=h3;subst h3;cases h;exact⟨rfl,rfl⟩
 ·have h3:dd=.float _:=h3;subst h3;cases h;exact⟨rfl,rfl⟩
 ·have h3:dd=.int _:=h3;subst h3;obtain⟨n,hn,h⟩:=Option.bind_eq_some_iff.1 h;split at h <;> cases h;rename_i hb;refine⟨?_,rfl⟩;simp[Conv.floatToInt,hn,hb]
 ·have h3:dd=.float _:=h3;subst h3;split at h <;> cases h;rename_i hs;refine⟨?_,rfl⟩;simp[Conv.floatToFloat,hs]
 ·cases h
theorem Yk(h:jX E X w0 ρ al fr hp a w)(hd:kD E.nt o=true)(hT:qE P E.T){s d:TypeId}{y:Operand}(ho:o.op=.convert s d y)(he:tM E id o (evA E fr) hp=some (x,u)):kW P E X w0 al fr hp a w o id x u:=by
 have hy:=(h.ev y).1;unfold tM effK at he;rw[ho]at he;simp only at he;split at he
 ·rename_i t1 ti p hs vQ Ie;rw[Ie]at hy;have e1:a.eval y=p:=hy.1;rw[Eu]at he;obtain⟨r,hr,he⟩:=Option.bind_eq_some_iff.1 he;cases he;obtain⟨ds,bBO,_⟩:=(hT s _ hs).d;obtain⟨dd,aMC,hk⟩:=(hT d _ vQ).d;obtain⟨h1,h2⟩:=aBT (P:=P) (w:=w) bBO aMC hk hr;refine dJ h hd (v:=r) ?_ ⟨rfl,h2⟩ (by simp[oK]);unfold execOp;rw[ho];simp only[e1,Sem.run_bind,h1,Result.andThen_ok,Sem.run_pure]
 ·cases he
theorem Yj(h:jX E X w0 ρ al fr hp a w)(hd:kD E.nt o=true){y:Operand}{i:Nat}(ho:o.op=.extract y i)(he:tM E id o (evA E fr) hp=some (x,u)):kW P E X w0 al fr hp a w o id x u:=by
 have hy:=h.ev y;unfold tM effK at he;rw[ho]at he;simp only at he;split at he
 ·rename_i xs bTB;split at he <;> cases he;rename_i v hv;rw[bTB]at hy;obtain⟨⟨arr,ha,hl,hr⟩,tW⟩:=hy;obtain⟨q,hq⟩:∃q,arr[i]?=some q:=by
   have:=bB hv;exact⟨arr[i],Array.getElem?_eq_getElem (by omega)⟩
  refine dJ h hd (v:=q) ?_ (hr i v q hv hq) (fun j hj=>tW j (List.mem_flatMap.2 ⟨v,bYW hv,hj⟩));unfold execOp;rw[ho];simp[Instr.extract,ha,hq]
 ·cases he
theorem tS{y:Operand}{k:IntKind}{n:Int}(h:jX E X w0 ρ al fr hp a w)(he:intArg (evA E fr y)=some (k,n)):a.eval y=.int k n:=by
 have hy:=(h.ev y).1;unfold intArg at he;split at he
 ·rename_i k' n' jU;cases he;rw[jU]at hy;exact hy.1
 ·cases he
theorem Qi(h:jX E X w0 ρ al fr hp a w)(hd:kD E.nt o=true)(hT:qE P E.T){t:TypeId}{y:Operand}{f:Nat}(ho:o.op=.fieldAddr t y f)(he:tM E id o (evA E fr) hp=some (x,u)):kW P E X w0 al fr hp a w o id x u:=by
 have hy:=h.ev y;unfold tM effK at he;rw[ho]at he;simp only at he;split at he
 ·rename_i s0 b0 z0 fs yR;obtain⟨d,vQ,fields,rfl,bKV,hf⟩:=(hT t _ yR).d;have hI:∀b off o1 size g,fs[f]?=some (o1,size,g)->0<size->a.eval y=.pointer (some ⟨b,off,none⟩)->(execOp a.eval o).run P w=.ok (.value (.pointer (some ⟨b,off+o1,none⟩))) w:=by
   intro b off o1 size g aIR qI jU;have jM:=bB aIR;obtain⟨fi,fd,e1,e2,e3⟩:=hf f fields[f] (Array.getElem?_eq_getElem (by omega));rw[aIR]at e3;cases e3;unfold execOp;rw[ho];have bKW:fields[f]?=some fields[f]:=Array.getElem?_eq_getElem (by omega);simp only[jU,Instr.fieldAt,Instr.sureAddr,Sem.run_bind,run_underlying vQ,Result.andThen_ok,bKW,Sem.run_pure,fieldPlace,sizeOf,typeInfo,run_program,e1];rw[bI];simp[nO]
  split at he
  ·rename_i off size g i o1 aIR jU;split at he <;> cases he;rename_i qI;rw[jU]at hy;exact dJ h hd (hI _ _ _ _ _ aIR qI hy.1) rfl hy.2
  ·rename_i off size g cs aIR jU;split at he <;> cases he;rename_i qI;rw[jU]at hy;obtain⟨⟨b,aWZ,hb,hc⟩,_⟩:=hy;refine dJ h hd (hI _ _ _ _ _ aIR qI hb) ⟨b,aWZ+off,rfl,fun i s hs=>?_⟩ (by simp[refs,refsV,refsL]);rw[bYZ]at hs;have:=hc (off+i) s hs;rwa [show aWZ+(off+i)=aWZ+off+i by omega]at this
  ·cases he
 ·cases he
theorem Mj{t:TypeId}{fi:TypeInfo}{fd:TypeDesc}(h1:P.info? t=some fi)(h2:P.underlying t=some fd){Y:Nat->Prop}{cs:List S}{arr:Array Value}(hr:jI Y w cs arr.toList){off:Nat}{v:V}
  (he:(bif uI fd then(if off+fi.size<=cs.length then some (V.agg ((cs.drop off).take fi.size))else none)else(cs[off]?).map fun c=>V.one (.s c))=some v) :
  ∃q,(part t arr off).run P w=.ok q w/\Hc ρ hp Y w v q/\refsV v=[]:=by
 have hl:cs.length=arr.size:=by simpa using hr.1
 have aBE:(isAgg t).run P w=.ok (uI fd) w:=by
  unfold isAgg;rw[Sem.run_bind,run_underlying h2];cases fd <;> rfl
 unfold part;rw[Sem.run_bind,aBE,Result.andThen_ok];cases hg:uI fd with
 |true =>
  rw[hg]at he;simp only[cond_true]at he;split at he <;> cases he;rename_i hle;refine⟨_,by rw[if_pos rfl,Sem.run_bind];simp only[sizeOf,typeInfo,Sem.run_bind,run_program,Result.andThen_ok,h1,Sem.run_pure];rfl,⟨_,rfl,?_⟩,rfl⟩;refine⟨by simp;omega,fun i s q hs hq=>?_⟩;have hi:i<fi.size:=by have:=bB hs;simp at this;omega
  rw[bYS hi,bYZ]at hs;refine hr.2 (off+i) s q hs ?_;have jM:=bB hs;simp at hq;rw[bYS (by omega),bYZ]at hq;exact hq
 |false =>
  rw[hg]at he;simp only[cond_false]at he;obtain⟨c,hc,rfl⟩:=Option.map_eq_some_iff.1 he;have jM:=bB hc;have hq:arr[off]?=some arr[off]:=Array.getElem?_eq_getElem (by omega);refine⟨arr[off],by simp[hq],hr.2 off c _ hc (by simp[<-hq]),rfl⟩
theorem aHK(h:jX E X w0 ρ al fr hp a w)(hd:kD E.nt o=true)(hT:qE P E.T){t:TypeId}{y:Operand}{f:Nat}(ho:o.op=.field t y f)(he:tM E id o (evA E fr) hp=some (x,u)):kW P E X w0 al fr hp a w o id x u:=by
 have hy:=(h.ev y).1;unfold tM effK at he;rw[ho]at he;simp only at he;split at he
 ·rename_i s0 b0 z0 fs yR;obtain⟨d,vQ,fields,rfl,bKV,hf⟩:=(hT t _ yR).d;split at he
  ·rename_i off size g cs aIR jU;split at he <;> cases he;rename_i v hv;rw[jU]at hy;obtain⟨arr,ha,hr⟩:=hy;have jM:=bB aIR;obtain⟨fi,fd,e1,e2,e3⟩:=hf f fields[f] (Array.getElem?_eq_getElem (by omega));rw[aIR]at e3;cases e3;obtain⟨q,Tx,aXY,bKB⟩:=Mj (P:=P) (ρ:=ρ) (hp:=hp) e1 e2 hr hv;refine dJ h hd (v:=q) ?_ aXY (by simp[refs,bKB]);have bKW:fields[f]?=some fields[f]:=Array.getElem?_eq_getElem (by omega);unfold execOp;rw[ho];simp only[Instr.field,Sem.run_bind,run_underlying vQ,Result.andThen_ok,bKW,ha,asAgg,Sem.run_pure,Tx]
  ·cases he
 ·cases he
theorem aHJ(h:jX E X w0 ρ al fr hp a w)(hd:kD E.nt o=true)(hT:qE P E.T){t:TypeId}{y z:Operand}(ho:o.op=.index t y z)(he:tM E id o (evA E fr) hp=some (x,u)):kW P E X w0 al fr hp a w o id x u:=by
 have hy:=(h.ev y).1;unfold tM effK at he;rw[ho]at he;simp only at he;split at he
 ·rename_i s0 b0 z0 len sQ g cs k n yR jU bEI;have hz:=tS h bEI;split at he
  ·rename_i jM;rw[aRS cs jM]at he;split at he <;> cases he;rename_i v hv;rw[jU]at hy;obtain⟨arr,ha,hr⟩:=hy;obtain⟨d,vQ,e,ei,ed,rfl,aPT,aVG,bPJ,bPI⟩:=(hT t _ yR).d;subst aVG;subst bPI;obtain⟨q,Tx,aXY,bKB⟩:=Mj (P:=P) (ρ:=ρ) (hp:=hp) aPT bPJ hr hv;refine dJ h hd (v:=q) ?_ aXY (by simp[refs,bKB]);unfold execOp;rw[ho];simp only[Instr.index,Sem.run_bind,hz,asIntOf,Sem.run_pure,run_underlying vQ,Result.andThen_ok,ha];rw[if_pos jM];simp only[sizeOf,typeInfo,Sem.run_bind,run_program,Result.andThen_ok,aPT,Sem.run_pure,Tx]
  ·cases he
 ·rename_i s0 b0 z0 s k n yR jU bEI;have hz:=tS h bEI;split at he
  ·rename_i jM;cases he;rw[jU]at hy;obtain⟨ha,_⟩:=hy;obtain⟨d,vQ,rfl⟩:=(hT t _ yR).d;refine dJ h hd (v:=.int .u8 (Je s n)) ?_ ⟨rfl,rfl⟩ (by intro i hi;cases hi);unfold execOp;rw[ho];have bEE:n.toNat<s.size:=by omega
   have hs:(if 0<=n then s[n.toNat]? else none)=some s[n.toNat]:=by
    rw[if_pos jM.1];exact getElem?_pos s n.toNat bEE
   have aGV:Je s n=(s[n.toNat].toNat:Int):=by
    unfold Je;rw[getElem?_pos s n.toNat bEE]
   simp only[Instr.index,Sem.run_bind,hz,asIntOf,Sem.run_pure,run_underlying vQ,Result.andThen_ok,ha,hs,aGV]
  ·cases he
 ·cases he
end
end AI
namespace AI
open Go Go.RowKit
section
variable {P:Program} {E:Env} {X:Nat->Prop} {w0:Old} {ρ:Nat->Nat} {al:Nat->Prop} {fr:Nat->A} {hp:Nat->Option lO} {a:Act} {w:World} {o:Oper} {id:Nat} {x:A} {u:sU}
theorem Aw{R:Type}{n:Int}{K:Nat->Option R}{r:R}:∀{m j:Nat},splitN n m j K=some r->∃i,j<=i/\i<j+m/\n=(i:Int)/\K i=some r
 |0,_,h=>by cases h
 |m+1,j,h=>by
  unfold splitN at h
  by_cases hc:n=(j:Int)
  ·rw[dqT hc]at h;exact⟨j,bYN _,by omega,hc,h⟩
  ·rw[dqF hc]at h;obtain⟨i,h1,h2,h3,h4⟩:=Aw (m:=m) (j:=j+1) h;exact⟨i,by omega,by omega,h3,h4⟩
theorem aGR{R:Type}{sh:Bool}{hp:Nat->Option lO}{t:TI}{sQ:Nat}{x:A}{n:Int}{K:A->Option R}{r:R}(h:Tt sh hp t sQ x n K=some r):idxK hp t sQ x n K=some r:=by
 unfold Tt at h;split at h
 ·split at h
  ·obtain⟨i,_,_,hn,h⟩:=Aw h;rw[hn];exact h
  ·exact h
 ·exact h
theorem wrap_small{n:Int}(h0:0<=n)(h1:n<=room):i64.wrap n=n:=by
 unfold room at h1;unfold IntKind.wrap;simp only[IntKind.bits,IntKind.signed];have e:n%(2^64:Int)=n:=by omega
 simp only[e];rw[if_neg (by simp;omega)]
theorem run_make(w:World)(t e:TypeId)(i:TypeInfo)(z:Value)(hu:P.underlying t=some (.slice e))(hi:P.info? e=some i)(hz:i.zero=some z)(kl kc:IntKind)(l c:Int)(h0:0<=l)(h1:l<=c)(h2:c<=room)(hb:i.bytes<=8) :
  (Instr.makeSlice t (.int kl l) (.int kc c)).run P w=.ok (.slice (some ⟨w.heap.size,0,none⟩) l.toNat c.toNat) (w.alloc (.cells ((Array.range (c.toNat*i.size)).map (z.cells[·%z.cells.size]!)) e)):=by
 have e1:i64.wrap l=l:=wrap_small h0 (by omega);have e2:i64.wrap c=c:=wrap_small (by omega) h2;have hbc:¬((i.bytes:Int)*c>2^48):=by
  have:(i.bytes:Int)*c<=8*c:=cAX (by omega) (by omega);unfold room at h2;omega
 have aMH:¬((i.bytes:Int)*l>2^48):=by
  have:(i.bytes:Int)*l<=8*l:=cAX (by omega) (by omega);unfold room at h2;omega
 unfold Instr.makeSlice;simp only[Sem.run_bind,run_underlying hu,Result.andThen_ok,asInt,asIntOf,Sem.run_pure,typeInfo,run_program,hi,e1,e2];rw[if_neg (by simp;omega)];have uJ:∀w:World,(sizeOf e).run P w=.ok i.size w:=fun w=>by simp[sizeOf,typeInfo,hi]
 have aLJ:∀w:World,(zeroValue e).run P w=.ok z w:=fun w=>by simp[zeroValue,typeInfo,hi,hz]
 simp only[Sem.run_bind,run_askRoom,Result.andThen_ok,uJ]
 by_cases hc:c.toNat*i.size=0
 ·rw[if_pos hc];have e0:∀(f g:Nat->Value),Array.map f (Array.range 0)=Array.map g (Array.range 0):=fun f g=>by simp[Array.range]
  simp only[Sem.run_bind,Sem.run_pure,Result.andThen_ok,hc];rw[e0 _ (fun x=>z.cells[x%z.cells.size]!)];rfl
 ·rw[if_neg hc];simp only[Sem.run_bind,aLJ,Sem.run_pure,Result.andThen_ok];rfl
theorem Qg (h : jX E X w0 ρ al fr hp a w) (hd : kD E.nt o = true) (hT : qE P E.T) (yB : ∀ j, j < 8 → ¬ al (id + j)) {t : TypeId} {y z : Operand} (ho : o.op = .makeSlice t y z) (he : tM E id o (evA E fr) hp = some (x, u)) : kW P E X w0 al fr hp a w o id x u := by
  unfold tM effK at he
  rw [ho] at he
  simp only at he
  split at he
  · rename_i s0 b0 z0 e k1 l k2 c yR bKI bHB
    have hy := tS h bKI
    have hz := tS h bHB
    have ht := hT t _ yR
    obtain ⟨d, vQ, Fk⟩ := ht.d
    have Fk : d = .slice e := Fk
    subst Fk
    split at he
    · rename_i bytes k0 z0' k Po
      have Mz := hT e _ Po
      obtain ⟨i, hi, uJ, aVJ, zv, aLJ, Pz⟩ := Mz.i
      split at he
      · rename_i Ni
        split at he <;> cases he
        rename_i Nh
        obtain ⟨h0, h1, h2⟩ := Nh
        have uJ : i.size = 1 := uJ
        have aVJ : i.bytes = bytes := aVJ
        have hI := run_make (P := P) w t e i zv vQ hi aLJ k1 k2 l c h0 h1 h2 (by omega)
        obtain ⟨_, _, rfl, rfl⟩ := Ni
        have Pz : zv.cells.toList = [.int k0 0] := Pz
        have aUV : zv.cells.size = 1 := by have : zv.cells.toList.length = 1 := by rw [Pz]; rfl
                                           simpa using this
        have aXM : zv.cells[0]! = .int k0 0 := by
          rw [getElem!_pos zv.cells 0 (by omega)]
          have : zv.cells.toList[0]? = some (.int k0 0) := by rw [Pz]; rfl
          simpa [Array.getElem?_eq_getElem (show 0 < zv.cells.size by omega)] using this
        have h3 := h.alloc (id := id) (al' := pY al id) (yB 0 (by omega)) (fun _ h => .inl h) (tC id) e (.ints k0 (cAQ l.toNat 0)) ((Array.range (c.toNat * i.size)).map (zv.cells[· % zv.cells.size]!)) (by
          refine ⟨by simp [uJ]; omega, fun j n hn => ?_⟩
          have hj := bB hn
          simp at hj
          rw [List.getElem?_replicate, if_pos (by omega)] at hn
          cases hn
          have bUR : j < c.toNat := by omega
          simp only [aUV, Nat.mod_one, aXM, uJ, bYX]
          simp [bUR])
        refine ⟨_, .slice (some ⟨w.heap.size, 0, none⟩) l.toNat c.toNat, _, .inl ?_, h3.pure hd (x := .v (.one (.buf id l.toNat))) ?_ ?_⟩
        · unfold execOp
          rw [ho]
          simp only [hy, hz, Sem.run_bind, hI, Result.andThen_ok, Sem.run_pure]
        · refine ⟨c.toNat, by rw [cH], by omega, fun blk k' ns hb hk => ?_, fun blk cs hb hk => by rw [cH] at hb; cases hb; cases hk⟩
          rw [cH] at hb
          cases hb
          cases hk
          refine ⟨by simp, by unfold room at h2; unfold maxLen; omega, ?_⟩
          rw [cH, mL (yD w _)]
          simp [uJ]
        · intro i hi
          simp only [refs, refsV, refsL, bZE] at hi
          subst hi
          exact tC i
      · cases he
    · cases he
  · cases he
theorem yH(h:jX E X w0 ρ al fr hp a w){d l:Int}{y:Option Operand}(he:bndA d (y.map (evA E fr))=some l):(y=none/\l=d)\/∃z k,y=some z/\a.eval z=.int k l:=by
 cases y with
 |none=>cases he;exact .inl ⟨rfl,rfl⟩
 |some z =>
  refine .inr ⟨z,?_⟩;have hz:=(h.ev z).1;simp only[bZA]at he;unfold bndA at he;split at he
  ·cases ‹some _=none›
  ·rename_i k n jU;cases he;have jU:evA E fr z=.v (.one (.s (.sc (.int k l)))):=Option.some.inj jU;rw[jU]at hz;exact⟨k,rfl,hz.1⟩
  ·cases he
theorem run_sliceBound(k:IntKind)(n:Int)(y:Nat)(c:BoundsCode)(h0:0<=n)(h1:n<=y):(Instr.sliceBound (.int k n) y c).run P w=.ok n.toNat w:=by
 unfold Instr.sliceBound;simp only[Sem.run_bind,asIntOf,Sem.run_pure,Result.andThen_ok];rw[if_pos ⟨h0,h1⟩];rfl
theorem aAK(len cap:Nat)(bBH:len<=cap)(lo hi mx:Option Operand)(h:jX E X w0 ρ al fr hp a w)
  {R:Type} {K:Nat->Nat->Option R} {r:R} (he:sliceK len (lo.map (evA E fr)) (hi.map (evA E fr)) (mx.map (evA E fr)) K=some r) :
  ∃l h' m,K l h'=some r/\l<=h'/\h'<=len/\h'<=m/\m<=cap/\(Instr.sliceBounds true len cap (lo.map a.eval) (hi.map a.eval) (mx.map a.eval)).run P w=.ok (l,h',m) w:=by
 unfold sliceK at he;split at he
 ·rename_i l h' hl hh hm;have bUF:mx=none:=by cases mx with
   |none=>rfl
   |some y=>cases hm
  subst bUF;split at he
  ·rename_i hc;obtain⟨c0,c1,c2⟩:=hc;refine⟨l.toNat,h'.toNat,cap,he,by omega,by omega,by omega,bYN _,?_⟩;unfold Instr.sliceBounds;rcases yH h hh with ⟨rfl,rfl⟩ |⟨yh,kh,rfl,bEG⟩
   ·rcases yH h hl with ⟨rfl,rfl⟩ |⟨yl,kl,rfl,aIQ⟩
    ·rfl
    ·simp only[cAY,bZA,Sem.run_bind,Sem.run_pure,Result.andThen_ok,aIQ,Option.isSome_none];rw[run_sliceBound kl l len _ c0 (by omega)];rfl
   ·simp only[cAY,bZA,Sem.run_bind,Sem.run_pure,Result.andThen_ok,bEG];rw[run_sliceBound kh h' cap _ (by omega) (by omega)];simp only[Result.andThen_ok];rcases yH h hl with ⟨rfl,rfl⟩ |⟨yl,kl,rfl,aIQ⟩
    ·rfl
    ·simp only[bZA,aIQ,Sem.run_bind];rw[run_sliceBound kl l h'.toNat _ c0 (by omega)];rfl
  ·cases he
 ·rename_i l h' mxa hl hh hm;split at he
  ·rename_i ya m bTA bPA;split at he
   ·rename_i hc;obtain⟨c0,c1,c2,c3⟩:=hc;obtain⟨ym,rfl,km,bKO⟩:∃ym,mx=some ym/\∃km,a.eval ym=.int km m:=by
     rw[<-hm]at bPA;rcases yH h bPA with ⟨rfl,_⟩ |⟨ym,km,rfl,bKO⟩
     ·cases hm
     ·exact⟨ym,rfl,km,bKO⟩
    obtain⟨yh,rfl,kh,bEG⟩:∃yh,hi=some yh/\∃kh,a.eval yh=.int kh h':=by
     rcases yH h hh with ⟨rfl,_⟩ |⟨yh,kh,rfl,bEG⟩
     ·cases bTA
     ·exact⟨yh,rfl,kh,bEG⟩
    refine⟨l.toNat,h'.toNat,m.toNat,he,by omega,by omega,by omega,by omega,?_⟩;unfold Instr.sliceBounds;simp only[bZA,Sem.run_bind,bKO];rw[run_sliceBound km m cap _ (by omega) (by omega)];simp only[Result.andThen_ok,bEG];rw[run_sliceBound kh h' m.toNat _ (by omega) (by omega)];simp only[Result.andThen_ok];rcases yH h hl with ⟨rfl,rfl⟩ |⟨yl,kl,rfl,aIQ⟩
    ·rfl
    ·simp only[bZA,aIQ,Sem.run_bind];rw[run_sliceBound kl l h'.toNat _ c0 (by omega)];rfl
   ·cases he
  ·cases he
 ·cases he
theorem oJ{t e:TypeId}{size:Nat}(hu:P.underlying t=some (.slice e))(hs:(sizeOf e).run P w=.ok size w)(A0:Option Addr)(len cap:Nat)(bBH:len<=cap)(lo hi mx:Option Operand)(h:jX E X w0 ρ al fr hp a w)
  {R:Type} {K:Nat->Nat->Option R} {r:R} (he:sliceK len (lo.map (evA E fr)) (hi.map (evA E fr)) (mx.map (evA E fr)) K=some r) :
  ∃l h' m,K l h'=some r/\l<=h'/\h'<=len/\h'<=m/\m<=cap/\(Instr.sliceAt t (.slice A0 len cap) (lo.map a.eval) (hi.map a.eval) (mx.map a.eval)).run P w=.ok (.slice (if m=l then A0 else A0.map (·.add (l*size))) (h'-l) (m-l)) w:=by
 obtain⟨l,h',m,h1,h2,h3,h4,h5,hI⟩:=aAK (P:=P) len cap bBH lo hi mx h he;refine⟨l,h',m,h1,h2,h3,h4,h5,?_⟩;unfold Instr.sliceAt;rw[Sem.run_bind,run_underlying hu,Result.andThen_ok];simp only[Instr.slice,Sem.run_bind,run_underlying hu,Result.andThen_ok,hI,hs,Sem.run_pure]
theorem aHI(h:jX E X w0 ρ al fr hp a w)(hd:kD E.nt o=true)(hT:qE P E.T){t:TypeId}{y:Operand}{lo hi mx:Option Operand}(ho:o.op=.slice t y lo hi mx)(he:tM E id o (evA E fr) hp=some (x,u)):kW P E X w0 al fr hp a w o id x u:=by
 have hy:=h.ev y;unfold tM effK at he;rw[ho]at he;simp only at he;split at he
 ·rename_i s0 b0 z0 e yR;obtain⟨d,vQ,Fk⟩:=(hT t _ yR).d;have Fk:d=.slice e:=Fk;subst Fk;split at he
  ·rename_i bytes zero k Po;have uJ:=(hT e _ Po).run_sizeOf (w:=w);have hex:∀v,(Instr.sliceAt t (a.eval y) (lo.map a.eval) (hi.map a.eval) (mx.map a.eval)).run P w=.ok v w->(execOp a.eval o).run P w=.ok (.value v) w:=by
    intro v hv;unfold execOp;rw[ho];simp only[Sem.run_bind,hv,Result.andThen_ok,Sem.run_pure]
   split at he
   ·rename_i k' ns jU;split at he
    ·rename_i hk;subst hk;rw[jU]at hy;obtain⟨⟨A0,c,hv,bBH,lA⟩,_⟩:=hy;obtain⟨l,h',m,hK,h1,h2,h3,h4,hI⟩:=oJ (P:=P) vQ uJ A0 ns.length c bBH lo hi mx h he;obtain⟨e1,e2⟩:=Prod.mk.inj (Option.some.inj hK);rw[<-e1,<-e2];rw[<-hv]at hI;have hlen:((ns.take h').drop l).length=h'-l:=by simp;omega
     refine dJ h hd (hex _ hI) ⟨_,m-l,by rw[hlen],by rw[hlen];omega,fun i n hn=>?_⟩ (by simp[refs,refsV,refsL]);rw[bYZ,List.getElem?_take]at hn;split at hn
     ·rename_i hli;obtain⟨b,off,hA,hb,hx,hc⟩:=lA (l+i) n hn;refine⟨b,off+l,?_,hb,hx,by rw[<-hc];congr 2;omega⟩;rw[bI,hA];simp[nO]
     ·cases hn
    ·cases he
   ·rename_i jU;rw[jU]at hy;have hv:a.eval y=.slice none 0 0:=hy.1.1;obtain⟨l,h',m,hK,h1,h2,h3,h4,hI⟩:=oJ (P:=P) vQ uJ none 0 0 (bYN _) lo hi mx h he;obtain⟨e1,e2⟩:=Prod.mk.inj (Option.some.inj hK);rw[<-e1,<-e2];rw[<-hv]at hI;have hlen:h'-l=([]:List Int).length:=by simp;omega
    exact dJ h hd (hex _ hI) ⟨_,m-l,by rw[hlen],by simp,fun i n hn=>by simp at hn⟩ (by simp[refs,refsV,refsL])
   ·rename_i i n jU;rw[jU]at hy;obtain⟨⟨cap,hv,Dj,hc,_⟩,tW⟩:=hy;obtain⟨l,h',m,hK,h1,h2,h3,h4,hI⟩:=oJ (P:=P) vQ uJ _ n cap Dj lo hi mx h he;obtain⟨e1,e2⟩:=Prod.mk.inj (Option.some.inj hK);rw[<-e1,<-e2];rw[<-hv]at hI;refine dJ h hd (hex _ hI) ⟨if m=l then 0 else l,m-l,?_,by omega,fun qI=>?_,fun h0=>?_,fun blk k' ns hb hk=>?_⟩ tW
    ·congr 1;split <;> simp_all [nO]
    ·rw[bI]
    ·split <;> omega
    ·have:=hc blk k' ns hb hk;exact⟨by omega,by omega,by omega⟩
   ·rename_i i off n jU;rw[jU]at hy;obtain⟨⟨o',cap,hv,Dj,hA,hA0,hc⟩,tW⟩:=hy;obtain⟨l,h',m,hK,h1,h2,h3,h4,hI⟩:=oJ (P:=P) vQ uJ _ n cap Dj lo hi mx h he;obtain⟨e1,e2⟩:=Prod.mk.inj (Option.some.inj hK);rw[<-e1,<-e2];rw[<-hv]at hI;refine dJ h hd (hex _ hI) ⟨if m=l then o' else o'+l,m-l,?_,by omega,fun qI=>?_,fun h0=>?_,fun blk k' ns hb hk=>?_⟩ tW
    ·congr 1;split <;> simp_all [nO]
    ·rw[bI,hA (by omega)]
    ·have:=hA0 (by omega);split <;> omega
    ·have:=hc blk k' ns hb hk;exact⟨by omega,by omega,by omega⟩
   ·cases he
  ·rename_i te _ Po;have uJ:=(hT e _ Po).run_sizeOf (w:=w);split at he
   ·rename_i sz n f jU;split at he
    ·rename_i bJT;subst bJT;rw[jU]at hy;obtain⟨⟨A0,cap,hv,Dj,aXX⟩,_⟩:=hy;obtain⟨l,h',m,hK,h1,h2,h3,h4,hI⟩:=oJ (P:=P) vQ uJ A0 n cap Dj lo hi mx h he;obtain⟨e1,e2⟩:=Prod.mk.inj (Option.some.inj hK);rw[<-e1,<-e2];rw[<-hv]at hI;have hex:(execOp a.eval o).run P w=.ok (.value (.slice (if m=l then A0 else A0.map (·.add (l*te.size))) (h'-l) (m-l))) w:=by
      unfold execOp;rw[ho];simp only[Sem.run_bind,hI,Result.andThen_ok,Sem.run_pure]
     refine dJ h hd hex ⟨_,m-l,rfl,by omega,fun i hi=>?_⟩ (by simp[refs,refsV,refsL]);obtain⟨r1,b,off,hA,r2⟩:=aXX (l+i) (by omega);refine⟨r1,b,off+l*te.size,?_,?_⟩
     ·rw[bI,hA];simp[nO]
     ·rw[show off+l*te.size+i*te.size=off+(l+i)*te.size by rw[bZH];omega];exact r2
    ·cases he
   ·cases he
  ·cases he
 ·cases he
theorem Gh{α:Type}{x y:α}{i:Nat}(h:[x][i]?=some y):i=0/\y=x:=by
 match i with
 |0=>simp at h;exact⟨rfl,h.symm⟩
 |i+1=>simp at h
theorem Qh(h:jX E X w0 ρ al fr hp a w)(hd:kD E.nt o=true)(hT:qE P E.T){t:TypeId}{y z:Operand}(ho:o.op=.indexAddr t y z)(he:tM E id o (evA E fr) hp=some (x,u)):kW P E X w0 al fr hp a w o id x u:=by
 have hy:=h.ev y;unfold tM effK at he;rw[ho]at he;simp only at he;split at he
 ·rename_i ti k n yR bEI;have hz:=tS h bEI;have ht:=hT t _ yR;obtain⟨d,vQ,Fk⟩:=ht.d;split at he
  ·
   rename_i e Xr;rw[Xr]at Fk;have Fk:d=.slice e:=Fk;subst Fk;split at he
   ·rename_i te Po;have uJ:=(hT e _ Po).run_sizeOf (w:=w);have hex:∀b off len cap,a.eval y=.slice (some ⟨b,off,none⟩) len cap->0<=n/\n<(len:Int)->(execOp a.eval o).run P w=.ok (.value (.pointer (some ⟨b,off+n.toNat*te.size,none⟩))) w:=by
     intro b off len cap hv hn;unfold execOp;rw[ho];simp only[hv,hz,Instr.indexAt,Sem.run_bind,asIntOf,Sem.run_pure,Result.andThen_ok,run_underlying vQ];rw[if_pos hn];simp only[Sem.run_bind,uJ,Result.andThen_ok,Sem.run_pure,nO]
    split at he
    ·cases he
    ·cases he
    ·rename_i xa aPR bEB;have he:=aGR he;unfold idxK at he;split at he
     ·rename_i k' ns jU;rw[jU]at hy;obtain⟨⟨A0,c,hv,bBH,lA⟩,_⟩:=hy;split at he
      ·rename_i aYN;split at he
       ·rename_i hn;obtain⟨e1,e2⟩:=Prod.mk.inj (Option.some.inj he);rw[<-e1,<-e2];have jM:n.toNat<ns.length:=by omega
        obtain⟨b,off,hA,hb,hx,hc⟩:=lA n.toNat ns[n.toNat] (bZD jM);subst hA;refine dJ h hd (hex b off ns.length c hv hn) ⟨b,off+n.toNat*te.size,rfl,fun i s hs=>?_⟩ (by simp[refs,refsV,refsL]);obtain⟨rfl,rfl⟩:=Gh hs;refine⟨hb,hx,_,by rw[aYN,bYX,bZO];exact hc,?_,rfl⟩;simp[cAH,jM]
       ·cases he
      ·cases he
     ·rename_i i m jU;rw[jU]at hy;obtain⟨⟨cap,hv,Dj,hc,_⟩,tW⟩:=hy;split at he
      ·rename_i e' k' ns hb;split at he
       ·rename_i aYN;split at he
        ·rename_i hn;obtain⟨e1,e2⟩:=Prod.mk.inj (Option.some.inj he);rw[<-e1,<-e2];refine dJ h hd (hex _ _ m cap hv hn) ⟨by rw[aYN,bYP,bYX],fun blk k1 Zn Bm Jz=>?_⟩ tW;have:=(hc blk k1 Zn Bm Jz).1;omega
        ·cases he
       ·cases he
      ·rename_i e' cs hb;split at he
       ·rename_i hn;obtain⟨e1,e2⟩:=Prod.mk.inj (Option.some.inj he);rw[<-e1,<-e2];refine dJ h hd (hex _ _ m cap hv hn) ?_ tW;show _=_;rw[bYP]
       ·cases he
      ·cases he
     ·rename_i i off m jU;rw[jU]at hy;obtain⟨hy,tW⟩:=hy;obtain⟨A0,cap,hv,Dj,hA,hc⟩:=xP hy;split at he
      ·rename_i e' k' ns hb;split at he
       ·rename_i aYN;split at he
        ·rename_i hn;obtain⟨e1,e2⟩:=Prod.mk.inj (Option.some.inj he);rw[<-e1,<-e2];have hA:=hA (by omega);subst hA;refine dJ h hd (hex _ _ m cap hv hn) ⟨by rw[aYN,bYX],fun blk k1 Zn Bm Jz=>?_⟩ tW;have:=hc blk k1 Zn Bm Jz;omega
        ·cases he
       ·cases he
      ·cases he
     ·rename_i sz m f jU;rw[jU]at hy;obtain⟨⟨A0,c,hv,bBH,lA⟩,_⟩:=hy;split at he
      ·rename_i aYN;split at he
       ·rename_i hn;obtain⟨e1,e2⟩:=Prod.mk.inj (Option.some.inj he);rw[<-e1,<-e2];obtain⟨bKV,b,off,hA,hc⟩:=lA n.toNat (by omega);subst hA;exact dJ h hd (hex b off m c hv hn) ⟨b,off+n.toNat*te.size,rfl,by rw[<-aYN];exact hc⟩ (by simp[refs,refsV,refsL])
       ·cases he
      ·cases he
     ·exact absurd ‹_› (aPR _ _)
     ·exact absurd ‹_› (bEB _ _)
     ·cases he
   ·cases he
  ·
   rename_i len sQ g Xr;rw[Xr]at Fk;obtain⟨e,ei,ed,rfl,aPT,aVG,bPJ,bPI⟩:=Fk;have uJ:(sizeOf e).run P w=.ok sQ w:=by simp[sizeOf,typeInfo,aPT,aVG]
   have hex:∀b off,a.eval y=.pointer (some ⟨b,off,none⟩)->0<=n/\n<(len:Int)->(execOp a.eval o).run P w=.ok (.value (.pointer (some ⟨b,off+n.toNat*sQ,none⟩))) w:=by
    intro b off hv hn;unfold execOp;rw[ho];simp only[hv,hz,Instr.indexAt,Sem.run_bind,asIntOf,Sem.run_pure,Result.andThen_ok,run_underlying vQ,Instr.sureAddr];rw[if_pos hn];simp only[Sem.run_bind,uJ,Result.andThen_ok,Sem.run_pure,nO]
   split at he
   ·rename_i i off jU;rw[jU]at hy;simp only[idxK,Xr]at he;cases hb:bYQ len 8 with
    |true =>
     rw[hb,cond_true]at he;obtain⟨j,_,hj,hn,he⟩:=Aw he;obtain⟨e1,e2⟩:=Prod.mk.inj (Option.some.inj he);rw[<-e1,<-e2];have hx:=hex _ _ hy.1 (by omega);rw[hn,Int.toNat_natCast]at hx;exact dJ h hd hx rfl hy.2
    |false =>
    rw[hb,cond_false]at he;split at he
    ·rename_i hn;obtain⟨e1,e2⟩:=Prod.mk.inj (Option.some.inj he);rw[<-e1,<-e2];exact dJ h hd (hex _ _ hy.1 hn) rfl hy.2
    ·cases he
   ·rename_i k' ns jU;rw[jU]at hy;obtain⟨⟨b,off,hv,hc⟩,_⟩:=hy;simp only[idxK,Xr]at he;split at he
    ·rename_i hl;split at he
     ·rename_i hn;obtain⟨e1,e2⟩:=Prod.mk.inj (Option.some.inj he);rw[<-e1,<-e2];have jM:n.toNat<ns.length:=by omega
      refine dJ h hd (hex _ _ hv hn) ⟨b,off+n.toNat*sQ,rfl,fun i s hs=>?_⟩ (by simp[refs,refsV,refsL]);obtain⟨rfl,rfl⟩:=Gh hs;have:=hc n.toNat (.sc (.int k' (ns.getD n.toNat 0))) (by simp[xZ,cAH,jM]);rw[hl.2,bYX,bZO];exact this
     ·cases he
    ·cases he
   ·cases he
  ·cases he
 ·cases he
theorem foldMM_sound(op:BinOp)(bt:Value->Value->Sem Value)(aYT:∀k n m,∀w,(bt (.int k n) (.int k m)).run P w=.ok (.int k (match op with | .gtr=>if m>n then m else n |_=>if m<n then m else n)) w)(h:jX E X w0 ρ al fr hp a w)(k:IntKind):∀(ys:List Operand) (n r:Int),
  foldMM op k n (ys.map (evA E fr))=some r->((ys.map a.eval).foldlM bt (.int k n)).run P w=.ok (.int k r) w
 | [],n,r,he=>by cases he;rfl
 |y :: ys,n,r,he=>by
  simp only[bYM]at he ⊢;unfold foldMM at he;split at he
  ·cases ‹_ :: _=[]›
  ·rename_i n0 k' m rest jU;obtain⟨jU,Ah⟩:=List.cons.inj jU;split at he
   ·rename_i hk;subst hk;have hy:=(h.ev y).1;rw[jU]at hy;have hy:a.eval y=.int k m:=hy.1;rw[<-Ah]at he;have ih:=foldMM_sound op bt aYT h k ys _ r he;simp only[List.foldlM_cons,Sem.run_bind,hy,aYT,Result.andThen_ok];exact ih
   ·cases he
  ·cases he
theorem aAT(h:jX E X w0 ρ al fr hp a w){y:Operand}{n:Nat}(he:lenA (evA E fr y)=some n):∃A0 cap,a.eval y=.slice A0 n cap:=by
 have hy:=(h.ev y).1;unfold lenA at he;split at he
 ·rename_i k ns jU;cases he;rw[jU]at hy;obtain⟨A0,c,hv,_⟩:=hy;exact⟨A0,c,hv⟩
 ·rename_i jU;cases he;rw[jU]at hy;exact⟨none,0,hy.1⟩
 ·rename_i i n' jU;cases he;rw[jU]at hy;obtain⟨cap,hv,_⟩:=hy;exact⟨_,cap,hv⟩
 ·rename_i i off n' jU;cases he;rw[jU]at hy;obtain⟨A0,cap,hv,_⟩:=xP hy;exact⟨A0,cap,hv⟩
 ·rename_i sz n' f jU;cases he;rw[jU]at hy;obtain⟨A0,cap,hv,_⟩:=hy;exact⟨A0,cap,hv⟩
 ·cases he
theorem vD(h:jX E X w0 ρ al fr hp a w){k:IntKind}{y:Operand}{ns:List Int}(he:intsOf hp k (evA E fr y)=some ns) :
  ∃A0 cap,a.eval y=.slice A0 ns.length cap/\∀(i:Nat) (n:Int),ns[i]?=some n->∃ad,A0=some ad/\w.cell? (ad.add i)=some (.int k n):=by
 have hy:=(h.ev y).1;unfold intsOf at he;split at he
 ·rename_i k' oR jU;split at he <;> cases he;rename_i hk;subst hk;rw[jU]at hy;obtain⟨A0,c,hv,hle,hc⟩:=hy;refine⟨A0,c,hv,fun i n hn=>?_⟩;obtain⟨b,off,hA,_,_,aME⟩:=hc i n hn;exact⟨_,hA,by rw[nO];exact aME⟩
 ·rename_i jU;cases he;rw[jU]at hy;exact⟨none,0,hy.1,fun i n hn=>by simp at hn⟩
 ·rename_i i m jU;split at he
  ·rename_i e k' oR hb;split at he <;> cases he;rename_i hk;subst hk;rw[jU]at hy;obtain⟨cap,hv,hle,hc,_⟩:=hy;obtain⟨hm,_⟩:=hc _ k ns hb rfl;subst hm;refine⟨_,cap,hv,fun j n hn=>⟨_,rfl,?_⟩⟩;rw[nO,bYP];exact h.zM hb hn
  ·cases he
 ·rename_i i off m jU;split at he
  ·rename_i e k' oR hb;split at he <;> cases he;rename_i hk;subst hk;rw[jU]at hy;obtain⟨A0,cap,hv,hle,hA,hc⟩:=xP hy;have hl:=hc _ k oR hb rfl;have hlen:((oR.drop off).take m).length=m:=by simp;omega
   refine⟨A0,cap,by rw[hlen];exact hv,fun j n hn=>?_⟩;have hj:j<m:=by have:=bB hn;omega
   refine⟨_,hA (by omega),?_⟩;rw[nO];rw[bYS hj,bYZ]at hn;exact h.zM hb hn
  ·cases he
 ·cases he
theorem mQ{b:Builtin}{args:Array Operand}{yQ:Array TypeId}(ho:o.op=.call ⟨.builtin b,args,yQ⟩){f:Array TypeId->TypeId->Array Value->Sem Value}(hf:∀consts vs,builtin b yQ o.type consts vs=(do pure (.value (<-f yQ o.type vs)):Sem Next)){v:Value}{w':World}(hr:(f yQ o.type (args.map a.eval)).run P w=.ok v w') :
  (execOp a.eval o).run P w=.ok (.value v) w':=by
 unfold execOp;rw[ho];simp only[resolve,Sem.run_bind,Sem.run_pure,Result.andThen_ok,invoke,hf,hr]
theorem aLB(k:IntKind)(n m:Int)(w:World):(Builtin.max2 (.int k n) (.int k m)).run P w=.ok (.int k (if m>n then m else n)) w:=(rfl:_=Result.ok (Value.int k (@ite Int (m>n) (Int.decLt n m) m n)) w).trans (by congr)
theorem aKZ(k:IntKind)(n m:Int)(w:World):(Builtin.min2 (.int k n) (.int k m)).run P w=.ok (.int k (if m<n then m else n)) w:=(rfl:_=Result.ok (Value.int k (@ite Int (m<n) (Int.decLt m n) m n)) w).trans (by congr)
theorem aSS(h:jX E X w0 ρ al fr hp a w)(hd:kD E.nt o=true)(hT:qE P E.T){args:Array Operand}{yQ:Array TypeId}(ho:o.op=.call ⟨.builtin .len,args,yQ⟩)(he:tM E id o (evA E fr) hp=some (x,u)):kW P E X w0 al fr hp a w o id x u:=by
 obtain⟨args⟩:=args;obtain⟨yQ⟩:=yQ;unfold tM effK at he;rw[ho]at he;simp only[builtinK]at he
 match args,yQ,he with
 | [y],[t],he =>
  simp only[bYM,bZF]at he;split at he
  ·rename_i s0 b0 z0 e n yR hlen;cases he;obtain⟨d,vQ,Fk⟩:=(hT t _ yR).d;have Fk:d=.slice e:=Fk;subst Fk;obtain⟨A0,cap,hv⟩:=aAT h hlen;refine dJ h hd (v:=.int .i64 n) (mQ ho (f:=Builtin.len_) (fun _ _=>rfl) ?_) ⟨rfl,rfl⟩ (by simp[oK]);simp[Builtin.len_,run_underlying vQ,hv,goInt]
  ·rename_i s0 b0 z0 n sQ g yR;cases he;obtain⟨d,vQ,e,ei,ed,rfl,_⟩:=(hT t _ yR).d;refine dJ h hd (v:=.int .i64 n) (mQ ho (f:=Builtin.len_) (fun _ _=>rfl) ?_) ⟨rfl,rfl⟩ (by simp[oK]);simp[Builtin.len_,run_underlying vQ,goInt]
  ·cases he
 | [],_,he=>simp at he
 |_ :: _ :: _,_,he=>simp at he
 | [_],[],he=>simp at he
 | [_],_ :: _ :: _,he=>simp at he
theorem No(h:jX E X w0 ρ al fr hp a w)(hd:kD E.nt o=true){b:Builtin}(hb:b=.max\/b=.min){args:Array Operand}{yQ:Array TypeId}(ho:o.op=.call ⟨.builtin b,args,yQ⟩)(he:tM E id o (evA E fr) hp=some (x,u)):kW P E X w0 al fr hp a w o id x u:=by
 obtain⟨args⟩:=args;unfold tM effK at he;rw[ho]at he;simp only at he
 match args,he with
 | [],he=>rcases hb with rfl |rfl <;> simp[builtinK]at he
 |y :: ys,he =>
  simp only[bYM]at he;have hy:=(h.ev y).1;rcases hb with rfl |rfl
  ·unfold builtinK at he;split at he <;> first | (cases he;done) | (simp_all;done) |skip
   rename_i b k n rest Bm jU;obtain⟨jU,Ah⟩:=List.cons.inj jU;rw[jU]at hy;have hy:a.eval y=.int k n:=hy.1;split at he <;> cases he;rename_i m hm;rw[<-Ah]at hm;have hr:=foldMM_sound (P:=P) .gtr Builtin.max2 (fun k n m w=>aLB k n m w) h k ys n m hm;refine dJ h hd (v:=.int k m) (mQ ho (f:=Builtin.max_) (fun _ _=>rfl) ?_) ⟨rfl,rfl⟩ (by simp[oK]);unfold Builtin.max_;simp only[bZI,bYM,hy];exact hr
  ·unfold builtinK at he;split at he <;> first | (cases he;done) | (simp_all;done) |skip
   rename_i b k n rest Bm jU;obtain⟨jU,Ah⟩:=List.cons.inj jU;rw[jU]at hy;have hy:a.eval y=.int k n:=hy.1;split at he <;> cases he;rename_i m hm;rw[<-Ah]at hm;have hr:=foldMM_sound (P:=P) .lss Builtin.min2 (fun k n m w=>aKZ k n m w) h k ys n m hm;refine dJ h hd (v:=.int k m) (mQ ho (f:=Builtin.min_) (fun _ _=>rfl) ?_) ⟨rfl,rfl⟩ (by simp[oK]);unfold Builtin.min_;simp only[bZI,bYM,hy];exact hr
end
end AI
namespace AI
open Go Go.RowKit
section
variable {P:Program} {E:Env} {X:Nat->Prop} {w0:Old} {ρ:Nat->Nat} {al:Nat->Prop} {fr:Nat->A} {hp:Nat->Option lO} {a:Act} {w:World} {o:Oper} {id:Nat} {x:A} {u:sU}
def gQ(k:IntKind)(ns:List Int):List Value:=ns.map fun n=>.int k n
theorem Jl(k:IntKind)(ns:List Int):∀v∈gQ k ns,v.oneCell'=true:=by
 intro v hv;obtain⟨n,_,rfl⟩:=List.mem_map.1 hv;rfl
theorem yE{w w':World}{row:Option Nat}(hg:w.grownBy w' row){k:Nat}(hk:k<w.heap.size)(Fj:row≠some k):w'.heap[k]?=w.heap[k]?:=hg.block k hk (fun e=>Fj e.symm)
theorem jX.Za(h:jX E X w0 ρ al fr hp a w){i:Nat}{e:TypeId}{c c2:oH}(hb:hp i=some ⟨e,c⟩)(aEP:E.n0<=i)(yB:¬al id){g:Nat}{pS:Array Value}{w':World}(hg:w.grownBy w' (some (ρ i)))
  (hw:w'.heap[g]?=some (.cells pS e (0,0))) (Ai:g=ρ i\/w.heap.size<=g) (hc:∀X',jB (XO X ρ hp) w X' w'->zX X' w' c2 pS) :
  jX E X w0 (Co ρ id g) (pY al id) fr (applyUps [(i,none),(id,some ⟨e,c2⟩)] hp) a w':=by
 have hi:=h.alh i _ hb;have Fj:i≠id:=fun e=>yB (e▸hi)
 obtain⟨Nj,arr,aHA,_⟩:=h.blk i _ hb;have Xu:∀j,applyUps [(i,none),(id,some ⟨e,c2⟩)] hp j=if j=id then some ⟨e,c2⟩else if j=i then none else hp j:=by
  intro j;simp only[applyUps]
  by_cases h1:j=id
  ·subst h1;rw[cH,if_pos rfl]
  ·rw[gK _ _ h1,if_neg h1]
   by_cases h2:j=i
   ·subst h2;rw[cH,if_pos rfl]
   ·rw[gK _ _ h2,if_neg h2]
 have hold:∀j b,applyUps [(i,none),(id,some ⟨e,c2⟩)] hp j=some b->j≠id->j≠i/\hp j=some b:=by
  intro j b hj Fj;rw[Xu,if_neg Fj]at hj;split at hj
  ·cases hj
  ·exact⟨‹_›,hj⟩
 have aRW:∀j b,hp j=some b->j≠i->ρ j≠ρ i:=fun j b hj Fj e=>Fj (h.inj j i b _ hj hb e)
 have bLO:Kept w0 w w':=⟨hg.os,hg.tape,hg.output,hg.size,fun k hk=>yE hg (by have:=h.below.size;have:=Old.Wy hk;omega) (fun e=>by cases e;exact hk Nj.Jx),fun k hk=>yI (yE hg (by have:=h.below.size;have:=w0.bCR k hk;omega) (fun e=>by cases e;have:=Nj.new aEP;have:=w0.bCR _ hk;omega))⟩;have hl:jB (XO X ρ hp) w (XO X (Co ρ id g) (applyUps [(i,none),(id,some ⟨e,c2⟩)] hp)) w':=by
  refine⟨hg.size,fun b bVS hx=>⟨yE hg bVS (fun e=>hx (.inr ⟨i,_,hb,by cases e;rfl⟩)),fun ho=>?_⟩⟩;rcases ho with ho |⟨j,bl,h1,h2⟩
  ·exact hx (.inl ho)
  ·by_cases hj:j=id
   ·subst hj;rw[cH]at h2;rcases Ai with Ai |Ai
    ·exact hx (.inr ⟨i,_,hb,by omega⟩)
    ·omega
   ·rw[gK _ _ hj]at h2;exact hx (.inr ⟨j,bl,(hold j bl h1 hj).2,h2⟩)
 refine h.change hl bLO ?_ ?_ ?_ (fun _ h=>.inl h) ?_
 ·intro j hj;have aBA:j≠id:=fun e=>yB (e▸hj)
  refine⟨gK _ _ aBA,fun b' xO=>?_⟩;obtain⟨h1,h2⟩:=hold j b' xO aBA;refine⟨b',h2,sameShape.refl _,?_⟩;unfold nB;rw[yE hg (h.jY h2) (fun e=>aRW j b' h2 h1 (Option.some.inj e).symm)]
 ·intro j b hj
  by_cases aBA:j=id
  ·subst aBA;rw[Xu,if_pos rfl]at hj;cases hj;rw[cH];exact⟨.inl (Ai.elim (fun e=>e▸Nj.new aEP) (fun e=>bZJ h.below.size e)),pS,hw,hc _ hl⟩
  ·obtain⟨h1,h2⟩:=hold j b hj aBA;rw[gK _ _ aBA];exact⟨(h.blk j b h2).1,(h.blk j b h2).2.later hl (yE hg (h.jY h2) (fun e=>aRW j b h2 h1 (Option.some.inj e).symm))⟩
 ·intro j j' b b' h1 h2 e
  by_cases hj:j=id
  ·by_cases aYH:j'=id
   ·rw[hj,aYH]
   ·subst hj;obtain⟨h3,h4⟩:=hold j' b' h2 aYH;rw[cH,gK _ _ aYH]at e;rcases Ai with Ai |Ai
    ·exact absurd (e.symm.trans Ai) (aRW j' b' h4 h3)
    ·have:=h.jY h4;omega
  ·obtain⟨h5,h6⟩:=hold j b h1 hj
   by_cases aYH:j'=id
   ·subst aYH;rw[cH,gK _ _ hj]at e;rcases Ai with Ai |Ai
    ·exact absurd (e.trans Ai) (aRW j b h6 h5)
    ·have:=h.jY h6;omega
   ·obtain⟨h3,h4⟩:=hold j' b' h2 aYH;rw[gK _ _ hj,gK _ _ aYH]at e;exact h.inj j j' b b' h6 h4 e
 ·intro j b hj
  by_cases aBA:j=id
  ·subst aBA;exact tC j
  ·exact .inl (h.alh j b (hold j b hj aBA).2)
theorem Qm{arr:Array Value}{k:IntKind}{ns:List Int}(h:arr.toList.take ns.length=gQ k ns):∀(j:Nat) (n:Int),ns[j]?=some n->arr[j]?=some (Value.int k n):=by
 intro j n hn;have hj:=bB hn;have:(gQ k ns)[j]?=some (.int k n):=by simp[gQ,hn]
 rw[<-h,bYS hj]at this;simpa using this
theorem Ps{arr:Array Value}{k:IntKind}{ns:List Int}(h:∀(j:Nat) (n:Int),ns[j]?=some n->arr[j]?=some (Value.int k n)):arr.toList.take ns.length=gQ k ns:=by
 apply List.ext_getElem?;intro j
 by_cases hj:j<ns.length
 ·rw[bYS hj];have:=h j ns[j] (bZD hj);simp only[gQ,bYR,bZD hj,bZA];simpa using this
 ·rw[cAJ (by simp;omega),cAJ (by simp[gQ];omega)]
theorem rJ(z:Array Value)(n:Nat):(Builtin.zeroCells z n).size=n*z.size:=by simp[Builtin.zeroCells]
theorem My(k:IntKind)(ns ms:List Int):gQ k ns ++ gQ k ms=gQ k (ns ++ ms):=by simp[gQ]
theorem Af{t e:TypeId}{ie:TypeInfo}{zv:Value}(ty:TypeId)(vQ:P.underlying t=some (.slice e))(hi:P.info? e=some ie)(aLJ:ie.zero=some zv)(aEL:zv.cells.size=ie.size)
  {g cap n m:Nat} {arr:Array Value} {news:List Value} (aHA:w.heap[g]?=some (.cells arr e (0,0))) (Dj:n<=cap) (bLH:cap<=maxLen) (bPM:cap*ie.size<=arr.size)
  (ad:Addr) (c0:Nat) (hl:news.length=m*ie.size) (Xo:∀(j:Nat) u,news[j]?=some u->w.cell? (ad.add j)=some u) (Qa:∀v∈news,v.oneCell'=true) (yA:n+m<=maxLen) (Ni:(n+m)*ie.bytes<=140737488355328) :
  ∃g' Qn pS w',(Builtin.append_ #[t,t] ty #[.slice (some ⟨g,0,none⟩) n cap,.slice (some ad) m c0]).run P w=.ok (.slice (some ⟨g',0,none⟩) (n+m) Qn) w' /\
   w.grownBy w' (some g)/\w'.heap[g']?=some (.cells pS e (0,0))/\(g'=g\/w.heap.size<=g')/\Qn*ie.size<=pS.size/\n+m<=Qn/\Qn<=maxLen/\pS.toList.take ((n+m)*ie.size)=arr.toList.take (n*ie.size) ++ news:=by
 have h1:n*ie.size<=cap*ie.size:=cAA _ Dj;have h2:(arr.toList.take (n*ie.size)).length=n*ie.size:=by simp;omega
 have h3:(arr.toList.take (n*ie.size) ++ news).length=(n+m)*ie.size:=by rw[bZQ,h2,hl,bZH]
 by_cases hr:n+m<=cap
 ·have h4:(n+m)*ie.size<=cap*ie.size:=cAA _ hr;have h5:n*ie.size+news.length=(n+m)*ie.size:=by rw[hl,bZH]
  have hI:=run_append_room (P:=P) w t ty e ie vQ hi g n cap arr aHA ad m c0 _ hl Xo Qa hr (by omega);refine⟨g,cap,_,_,hI,⟨rfl,rfl,rfl,by simp,fun k _ hk=>setRow_other w g k _ (fun e=>hk (by rw[e]))⟩,setRow_heap w g arr _ e _ aHA,.inl rfl,?_,hr,bLH,?_⟩
  ·simp only[cAB,bZQ,List.length_drop,h2,h5,Array.length_toList];omega
  ·rw[<-h3];exact cAC
 ·have hI:=run_append_grow (P:=P) w t ty e ie zv vQ hi aLJ ⟨g,0,none⟩ n cap _ h2 (fun j v hj=>by
   have aGZ:=bB hj;rw[bYS (by omega)]at hj;rw[nO,bYP,cell_of_row w g j arr e (0,0) aHA];simpa using hj) ad m c0 _ hl Xo (by omega) (by unfold maxLen at yA;omega) (growslice_fits (by omega) Ni)
  have Ai:=grownCap_ge w (n+m) cap e;have Ud:grownCap w (n+m) cap e<=maxLen:=grownCap_le_maxLen w _ _ e yA;refine⟨w.heap.size,_,_,_,hI,⟨rfl,rfl,rfl,by simp,fun k hk _=>yC w.drew _ hk⟩,heap_alloc_new w.drew _,.inr (bYN _),?_,Ai,Ud,?_⟩
  ·simp only[Array.size_append,cAB,rJ,aEL,h2,hl];rw[<-bZH,<-bZH];exact cAA _ (by omega)
  ·simp only[Array.toList_append];rw[<-h3];exact cAC
theorem jX.drew(h:jX E X w0 ρ al fr hp a w):jX E X w0 ρ al fr hp a w.drew :=
 h.change ⟨bYN _,fun _ _ hx=>⟨rfl,hx⟩⟩ ⟨rfl,rfl,rfl,bYN _,fun _ _=>rfl,fun _ _=>rfl⟩
  (fun _ _=>⟨rfl,fun b' xO=>⟨b',xO,sameShape.refl _,rfl⟩⟩) (fun id b hb=>⟨(h.blk id b hb).1,(h.blk id b hb).2.later ⟨bYN _,fun _ _ hx=>⟨rfl,hx⟩⟩ rfl⟩) h.inj (fun _ h=>h) h.alh
theorem zX.front{Y:Nat->Prop}{cs:List S}{arr:Array Value}(h:zX Y w (.cells cs) arr):jI Y w cs (arr.toList.take cs.length) :=
 ⟨by have:=h.1;simp;omega,fun i s u hs hu=>by
  obtain⟨u',Tv,hr⟩:=h.2 i s hs;rw[bYS (bB hs)]at hu;have:u=u':=by simp at hu;rw[hu]at Tv;exact Option.some.inj Tv
  exact this▸hr⟩
theorem zX.Wz{Y:Nat->Prop}{cs:List S}{arr:Array Value}(h:jI Y w cs (arr.toList.take cs.length)):zX Y w (.cells cs) arr :=
 ⟨by have:=h.1;simp at this;omega,fun i s hs=>by
  have jM:=bB hs;obtain⟨u,hu⟩:=bV (l:=arr.toList.take cs.length) (i:=i) (by rw[<-h.1];exact jM);refine⟨u,?_,h.2 i s u hs hu⟩;rw[bYS jM]at hu;simpa using hu⟩
theorem jI.append{Y:Nat->Prop}{cs ds:List S}{vs us:List Value}(h:jI Y w cs vs)(h':jI Y w ds us):jI Y w (cs ++ ds) (vs ++ us) :=
 ⟨by simp[h.1,h'.1],fun i s u hs hu=>by
  by_cases hi:i<cs.length
  ·rw[bZY hi]at hs;rw[bZY (by rw[<-h.1];exact hi)]at hu;exact h.2 i s u hs hu
  ·rw[bZZ (by omega)]at hs;rw[bZZ (by rw[<-h.1];omega),<-h.1]at hu;exact h'.2 _ s u hs hu⟩
theorem Ul(h:jX E X w0 ρ al fr hp a w)(hd:kD E.nt o=true)(yB:∀j,j<8->¬al (id+j)){t e:TypeId}{te:TI}(vQ:P.underlying t=some (.slice e))(Po:By P e te){y z:Operand}(ho:o.op=.call ⟨.builtin .append,#[y,z],#[t,t]⟩)
  (he:rY E.n0 id e te (evA E fr y) (evA E fr z) hp (fun a u=>some (a,u))=some (x,u)):kW P E X w0 al fr hp a w o id x u:=by
 obtain⟨ie,hi,uJ,aVJ,zv,aLJ,Pz⟩:=Po.i;have aEL:zv.cells.size=ie.size:=by
  have h1:=Po.zl;rw[<-Pz]at h1;rw[uJ,<-h1];simp
 have uL:∀n,∀i∈refs (.v (.one (.buf id n))),pY al id i:=by
  intro n i hi;simp only[refs,refsV,refsL,bZE]at hi;subst hi;exact tC i
 have hy:=(h.ev y).1;have hz:=(h.ev z).1;unfold rY at he;split at he
 ·rename_i j m bKX;rw[bKX]at hz;obtain⟨bFV,bJL,_,_,_⟩:=hz;split at he
  ·rename_i ej new bVT;obtain⟨_,Ux,bVA,bLJ⟩:=h.blk j _ bVT;split at he
   ·rename_i hm;obtain⟨aSA,bBG⟩:=hm;have aYK:=bLJ.front;have bKJ:(Ux.toList.take new.length).length=m*ie.size:=by rw[<-aYK.1,bBG,uJ]
    have Xo:∀(k:Nat) v,(Ux.toList.take new.length)[k]?=some v->w.cell? ((⟨ρ j,0,none⟩:Addr).add k)=some v:=by
     intro k v hk;have aYG:=bB hk;rw[bYS (by rw[<-aYK.1]at aYG;exact aYG)]at hk;rw[nO,bYP,cell_of_row w (ρ j) k Ux _ (0,0) bVA];simpa using hk
    have Qa:∀v∈Ux.toList.take new.length,v.oneCell'=true:=by
     intro v hv;obtain⟨k,hk⟩:=bZL hv;obtain⟨s,hs⟩:=bV (l:=new) (i:=k) (by rw[aYK.1];exact bB hk);exact(aYK.2 k s v hs hk).one
    split at he
    ·
     rename_i i n aYM;rw[aYM]at hy;obtain⟨cap,hv,Dj,_,aVI⟩:=hy;split at he
     ·rename_i e' cs bLN;split at he
      ·rename_i hk;obtain⟨rfl,aEP,hn,aIS,Bm,bBS⟩:=hk;obtain⟨e1,e2⟩:=Prod.mk.inj (Option.some.inj he);rw[<-e1,<-e2];obtain⟨sz,h5,h6,h7⟩:=aVI _ cs bLN rfl;have bTP:sz=ie.size:=by rw[uJ];exact Nat.eq_of_mul_eq_mul_left hn (by rw[<-h5,aIS])
       subst bTP;obtain⟨_,arr,aHA,bVP⟩:=h.blk i _ bLN;rw[mL aHA]at h6;have bHG:=bVP.front;obtain⟨g',Qn,pS,w',hI,hg,bEQ,aYJ,sT,aGY,Ud,bGW⟩:=Af (P:=P) o.type vQ hi aLJ aEL aHA Dj h7 h6 ⟨ρ j,0,none⟩ bFV bKJ Xo Qa (by unfold maxLen;omega) (by rw[aVJ];omega);have hlen:(cs ++ new).length=(n+m)*ie.size:=by rw[bZQ,aIS,bBG,uJ,bZH]
       have h1:=h.Za (id:=id) (c2:=.cells (cs ++ new)) bLN aEP (yB 0 (by omega)) hg bEQ aYJ (fun X' hl=>zX.Wz (by
        rw[hlen,bGW];refine jI.append (jI.later hl ?_) (jI.later hl aYK);rw[h5]at bHG;exact bHG))
       refine⟨_,.slice (some ⟨g',0,none⟩) (n+m) Qn,w',.inl (mQ ho (f:=Builtin.append_) (fun _ _=>rfl) ?_),h1.pure hd (x:=.v (.one (.buf id (n+m)))) ?_ (uL _)⟩
       ·simp only[bZI,bYM,bZF,hv,bJL];exact hI
       ·refine⟨Qn,by rw[cH],aGY,fun blk k1 Zn aHD Jz=>?_,fun blk bQE aHD Jz=>?_⟩
        ·simp only[applyUps]at aHD;rw[cH]at aHD;cases aHD;cases Jz
        ·simp only[applyUps]at aHD;rw[cH]at aHD;cases aHD;cases Jz;exact⟨ie.size,hlen,by rw[cH,mL bEQ];exact sT,Ud⟩
      ·cases he
     ·cases he
    ·
     rename_i aYM;rw[aYM]at hy;have hv:a.eval y=.slice none 0 0:=hy.1;split at he
     ·rename_i hk;obtain⟨Bm,bBS⟩:=hk;obtain⟨e1,e2⟩:=Prod.mk.inj (Option.some.inj he);rw[<-e1,<-e2];have hI:=run_append_nil (P:=P) w t o.type e ie zv vQ hi aLJ ⟨ρ j,0,none⟩ m bFV _ bKJ Xo aSA (by omega) (by rw[aVJ];omega);have Ai:=grownCap_ge w m 0 e;have Ud:grownCap w m 0 e<=maxLen:=grownCap_le_maxLen w _ _ e (by unfold maxLen;omega);have bDM:((Ux.toList.take new.length).toArray ++ Builtin.zeroCells zv.cells (grownCap w m 0 e-m)).size=grownCap w m 0 e*ie.size:=by
       simp only[Array.size_append,cAB,rJ,aEL,bKJ];rw[<-bZH];congr 1;omega
      have h1:=h.drew.alloc (id:=id) (al':=pY al id) (yB 0 (by omega)) (fun _ h=>.inl h) (tC id) e (.cells new) ((Ux.toList.take new.length).toArray ++ Builtin.zeroCells zv.cells (grownCap w m 0 e-m)) (by
       refine zX.Wz ?_;have e3:((Ux.toList.take new.length).toArray ++ Builtin.zeroCells zv.cells (grownCap w m 0 e-m)).toList.take new.length=Ux.toList.take new.length:=by
        have hq:=aYK.1;generalize Ux.toList.take new.length=L at hq ⊢;rw[Array.toList_append,hq];exact cAC
       rw[e3];exact jI.later ⟨bYN _,fun _ _ hx=>⟨rfl,hx⟩⟩ aYK)
      refine⟨_,.slice (some ⟨w.heap.size,0,none⟩) m (grownCap w m 0 e),_,.inl (mQ ho (f:=Builtin.append_) (fun _ _=>rfl) ?_),h1.pure hd (x:=.v (.one (.buf id m))) ?_ (uL _)⟩
      ·simp only[bZI,bYM,bZF,hv,bJL];exact hI
      ·refine⟨_,by rw[cH];rfl,Ai,fun blk k1 Zn aHD Jz=>?_,fun blk bQE aHD Jz=>?_⟩
       ·rw[cH]at aHD;cases aHD;cases Jz
       ·rw[cH]at aHD;cases aHD;cases Jz;refine⟨ie.size,by rw[bBG,uJ],?_,Ud⟩;rw[cH,mL (yD w.drew _),bDM];exact bYN _
     ·cases he
    ·cases he
   ·cases he
  ·cases he
 ·cases he
theorem aBM(h:jX E X w0 ρ al fr hp a w)(hd:kD E.nt o=true)(hT:qE P E.T)(yB:∀j,j<8->¬al (id+j)){args:Array Operand}{yQ:Array TypeId}(ho:o.op=.call ⟨.builtin .append,args,yQ⟩)(he:tM E id o (evA E fr) hp=some (x,u)):kW P E X w0 al fr hp a w o id x u:=by
 obtain⟨args⟩:=args;obtain⟨yQ⟩:=yQ;unfold tM effK at he;rw[ho]at he;simp only[builtinK]at he
 match args,yQ,he with
 | [y,z],[t,t'],he =>
  simp only[bYM,bZF]at he;split at he
  ·rename_i bTO;subst bTO;split at he
   ·rename_i s0 b0 z0 e yR;obtain⟨d,vQ,Fk⟩:=(hT t _ yR).d;have Fk:d=.slice e:=Fk;subst Fk;split at he
    ·rename_i bytes zero k Po;have Mz:=hT e _ Po;obtain⟨ie,hi,uJ,aVJ,zv,aLJ,Pz⟩:=Mz.i;have uJ:ie.size=1:=uJ;have aVJ:ie.bytes=bytes:=aVJ;have aEL:zv.cells.size=1:=by
      have h1:zero.length=1:=Mz.zl;have h2:zv.cells.toList=zero:=Pz;rw[<-h2]at h1;simpa using h1
     have uL:∀i∈refs (.v (.one (.buf id 0))),pY al id i:=by
      intro i hi;simp only[refs,refsV,refsL,bZE]at hi;subst hi;exact tC i
     split at he
     ·rename_i hb8;have hy:=(h.ev y).1;split at he
      ·
       rename_i i n ms jU aRZ;rw[jU]at hy;obtain⟨cap,hv,Dj,hc,_⟩:=hy;split at he
       ·rename_i e' k' ns hb;cases Ig:bYY i E.n0 with
        |true=>rw[Ig]at he;cases he
        |false =>
        rw[Ig]at he;simp only[cond_false]at he;have Ig:E.n0<=i:=by
         have:¬i<E.n0:=fun h=>by
          have h2:bYY i E.n0=true:=by rw[Nat.blt_eq];exact h
          rw[h2]at Ig;cases Ig
         omega
        split at he
        ·rename_i bVJ;obtain⟨rfl,rfl⟩:=bVJ;split at he
         ·rename_i yA;obtain⟨qI,yA⟩:=yA;obtain⟨e1,e2⟩:=Prod.mk.inj (Option.some.inj he);rw[<-e1,<-e2];obtain⟨hn,bLH,bPM⟩:=hc _ k ns hb rfl;subst hn;obtain⟨Nj,arr,aHA,aIS,bLK⟩:=h.blk i _ hb;rw[mL aHA]at bPM;obtain⟨A0,c0,aGU,lA⟩:=vD h aRZ;obtain⟨ad,hA,_⟩:=lA 0 ms[0] (bZD qI);subst hA;obtain⟨g',Qn,pS,w',hI,hg,bEQ,aYJ,sT,aGY,Ud,bGW⟩:=Af (P:=P) (m:=ms.length) (news:=gQ k ms) o.type vQ hi aLJ (by omega) aHA Dj bLH (by rw[uJ];omega) ad c0 (by simp[gQ,uJ]) (fun j v hj=>by
           simp only[gQ,bYR,bZR]at hj;obtain⟨m,hm,rfl⟩:=hj;obtain⟨bQL,e1,e2⟩:=lA j m hm;cases e1;exact e2) (Jl k ms) (by unfold maxLen;unfold room at yA;omega) (by
           have:(ns.length+ms.length)*ie.bytes<=(ns.length+ms.length)*8:=cBB _ (by omega);unfold room at yA;omega)
          rw[uJ,bYX]at sT;rw[uJ,bYX,bYX,Ps bLK,My,<-bZQ]at bGW;have h1:=h.Za (id:=id) (c2:=.ints k (ns ++ ms)) hb Ig (yB 0 (by omega)) hg bEQ aYJ (fun _ _=>⟨by simp;omega,Qm bGW⟩);refine⟨_,.slice (some ⟨g',0,none⟩) (ns.length+ms.length) Qn,w',.inl (mQ ho (f:=Builtin.append_) (fun _ _=>rfl) ?_),h1.pure hd (x:=.v (.one (.buf id (ns.length+ms.length)))) ?_ uL⟩
          ·simp only[bZI,bYM,bZF,hv,aGU];exact hI
          ·refine⟨Qn,by rw[cH],aGY,fun blk k1 Zn Bm Jz=>?_,fun blk cs Bm Jz=>by simp only[applyUps]at Bm;rw[cH]at Bm;cases Bm;cases Jz⟩;simp only[applyUps]at Bm;rw[cH]at Bm;cases Bm;cases Jz;refine⟨by simp,Ud,?_⟩;rw[cH,mL bEQ];exact sT
         ·cases he
        ·cases he
       ·cases he
      ·
       rename_i ms jU aRZ;rw[jU]at hy;have hv:a.eval y=.slice none 0 0:=hy.1;split at he
       ·rename_i yA;obtain⟨qI,yA⟩:=yA;obtain⟨e1,e2⟩:=Prod.mk.inj (Option.some.inj he);rw[<-e1,<-e2];obtain⟨A0,c0,aGU,lA⟩:=vD h aRZ;obtain⟨ad,hA,_⟩:=lA 0 ms[0] (bZD qI);subst hA;have hl:(gQ k ms).length=ms.length*ie.size:=by simp[gQ,uJ]
        have Ni:ms.length*ie.bytes<=281474976710656:=by
         have:ms.length*ie.bytes<=ms.length*8:=cBB _ (by omega);unfold room at yA;omega
        have hI:=run_append_nil (P:=P) w t o.type e ie zv vQ hi aLJ ad ms.length c0 (gQ k ms) hl (fun j v hj=>by
         simp only[gQ,bYR,bZR]at hj;obtain⟨m,hm,rfl⟩:=hj;obtain⟨bQL,e1,e2⟩:=lA j m hm;cases e1;exact e2) qI (by unfold room at yA;omega) Ni
        have Ai:=grownCap_ge w ms.length 0 e;have Ud:grownCap w ms.length 0 e<=maxLen:=grownCap_le_maxLen w _ _ e (by unfold maxLen;unfold room at yA;omega);have h1:=h.drew.alloc (id:=id) (al':=pY al id) (yB 0 (by omega)) (fun _ h=>.inl h) (tC id) e (.ints k ms) ((gQ k ms).toArray ++ Builtin.zeroCells zv.cells (grownCap w ms.length 0 e-ms.length)) (by
         refine⟨by simp[gQ,rJ,aEL,bYX],fun j n hn=>?_⟩;have hj:=bB hn;rw[Array.getElem?_append_left (by simp[gQ];omega)];simp[gQ,hn])
        refine⟨_,.slice (some ⟨w.heap.size,0,none⟩) ms.length (grownCap w ms.length 0 e),_,.inl (mQ ho (f:=Builtin.append_) (fun _ _=>rfl) ?_),h1.pure hd (x:=.v (.one (.buf id ms.length))) ?_ uL⟩
        ·simp only[bZI,bYM,bZF,hv,aGU];exact hI
        ·refine⟨_,by rw[cH];rfl,Ai,fun blk k1 Zn Bm Jz=>?_,fun blk cs Bm Jz=>by rw[cH]at Bm;cases Bm;cases Jz⟩;rw[cH]at Bm;cases Bm;cases Jz;refine⟨rfl,Ud,?_⟩;rw[cH,mL (yD w.drew _)];simp only[Array.size_append,cAB,rJ,aEL,bYX];simp[gQ];omega
       ·cases he
      ·cases he
     ·cases he
    ·rename_i te _ Po;exact Ul h hd yB vQ (hT e _ Po) ho he
    ·cases he
   ·cases he
  ·cases he
 | [],_,he=>simp at he
 | [_],_,he=>simp at he
 |_ :: _ :: _ :: _,_,he=>simp at he
 | [_,_],[],he=>simp at he
 | [_,_],[_],he=>simp at he
 | [_,_],_ :: _ :: _ :: _,he=>simp at he
theorem Wb{α:Type}(f:Nat->α)(i:Nat)(b:α)(h:f i=b):Co f i b=f:=by
 funext j
 by_cases hj:j=i
 ·subst hj;rw[cH,h]
 ·rw[gK _ _ hj]
theorem Rs(h:jX E X w0 ρ al fr hp a w){t t' e:TypeId}{bytes:Nat}{zero:List Value}{k:IntKind}(ty:TypeId)(vQ:P.underlying t=some (.slice e))(Po:By P e ⟨1,bytes,zero,.int k⟩)
  {i off n dcap:Nat} {e':TypeId} {ns ms:List Int} (hb:hp i=some ⟨e',.ints k ns⟩) (hle:off+n<=ns.length) (Ad:Option Addr) (hA:0<n->Ad=some ⟨ρ i,off,none⟩)
  (As:Option Addr) (sc:Nat) (lA:∀(j:Nat) (m:Int),ms[j]?=some m->∃ad,As=some ad/\w.cell? (ad.add j)=some (.int k m)) :
  ∃w',(Builtin.copy_ #[t,t'] ty #[.slice Ad n dcap,.slice As ms.length sc]).run P w=.ok (.int .i64 (min ms.length n:Nat)) w' /\
   jX E X w0 ρ al fr (Co hp i (some ⟨e',.ints k (ns.take off ++ (ms.take n ++ ns.drop (off+min ms.length n)))⟩)) a w':=by
 obtain⟨ie,hi,uJ,_⟩:=Po.i;have uJ:ie.size=1:=uJ;have Zq:(P.info? e).map (·.size)=some 1:=by simp[hi,uJ]
 obtain⟨_,arr,aHA,aIS,bLK⟩:=h.blk i _ hb
 by_cases h0:min ms.length n=0
 ·refine⟨w,?_,?_⟩
  ·have:=run_copy_none (P:=P) w t t' ty e Ad As n dcap ms.length sc vQ Zq h0;rw[this,h0];rfl
  ·have hc:ns.take off ++ (ms.take n ++ ns.drop (off+min ms.length n))=ns:=by
    have:ms.take n=[]:=by
     apply cBC;rw[cBD];omega
    rw[this,h0];simp
   rw[hc,Wb _ _ _ hb];exact h
 ·have hn:0<n:=by omega
  have hm:0<ms.length:=by omega
  have hA:=hA hn;subst hA;obtain⟨ad,rfl,_⟩:=lA 0 ms[0] (bZD hm);have hlen:(gQ k (ms.take n)).length=min ms.length n:=by rw[gQ,cAG,cBD];omega
  have hI:=run_copy_row (P:=P) w t t' ty e (ρ i) off n dcap ad ms.length sc arr e' (gQ k (ms.take n)) vQ Zq aHA hlen (fun j v hj=>by
   simp only[gQ,bYR,bZR]at hj;obtain⟨m,hm,rfl⟩:=hj;have aBA:j<n:=by have:=bB hm;simp at this;omega
   rw[bYS aBA]at hm;obtain⟨bQL,e1,e2⟩:=lA j m hm;cases e1;exact e2) (by rw[hlen];have:ns.length<=arr.size:=aIS;omega) (Jl k _)
  rw[hlen]at hI;refine⟨_,hI,?_⟩;have aIS:ns.length<=arr.size:=aIS;refine h.setRow hb _ _ ⟨fun k1 Zn e1=>?_,fun Ns e1=>by cases e1⟩ ?_ ?_
  ·cases e1;exact⟨k,ns,rfl,by simp;omega⟩
  ·rw[mL aHA];simp[hlen];omega
  ·refine⟨by simp[hlen];omega,fun j m hj=>?_⟩;have jM:(ms.take n).length=min ms.length n:=by simp;omega
   rw[<-jM,List.sZ ns (ms.take n) off j (by rw[jM];omega)]at hj;have e1:(arr.toList.take off ++ gQ k (ms.take n) ++ arr.toList.drop (off+min ms.length n)).toArray[j]?=(arr.toList.take off ++ (gQ k (ms.take n) ++ arr.toList.drop (off+(gQ k (ms.take n)).length)))[j]?:=by
    rw[hlen];simp[cAI]
   rw[e1,List.sZ _ _ _ _ (by rw[hlen];simp;omega),hlen];rw[jM]at hj
   by_cases aBB:off<=j/\j<off+min ms.length n
   ·rw[if_pos aBB]at hj ⊢;simp only[gQ,bYR,hj,bZA]
   ·rw[if_neg aBB]at hj ⊢;simpa using bLK j m hj
theorem aNC(h:jX E X w0 ρ al fr hp a w)(hd:kD E.nt o=true)(hT:qE P E.T){args:Array Operand}{yQ:Array TypeId}(ho:o.op=.call ⟨.builtin .copy,args,yQ⟩)(he:tM E id o (evA E fr) hp=some (x,u)):kW P E X w0 al fr hp a w o id x u:=by
 obtain⟨args⟩:=args;obtain⟨yQ⟩:=yQ;unfold tM effK at he;rw[ho]at he;simp only[builtinK]at he
 match args,yQ,he with
 | [y,z],[t,t'],he =>
  simp only[bYM,bZF]at he;split at he
  ·rename_i s0 b0 z0 e yR;obtain⟨d,vQ,Fk⟩:=(hT t _ yR).d;have Fk:d=.slice e:=Fk;subst Fk;split at he
   ·rename_i bytes zero k Po;have Mz:=hT e _ Po;have hy:=(h.ev y).1;have fin:∀{i:Nat} {e':TypeId} {k':IntKind} {ns cs:List Int} {n:Nat},(∃w',(Builtin.copy_ #[t,t'] o.type (#[y,z].map a.eval)).run P w=.ok (.int .i64 n) w'/\jX E X w0 ρ al fr (Co hp i (some ⟨e',.ints k cs⟩)) a w') ->
      kW P E X w0 al fr hp a w o id (Dh (.int .i64 n)) [(i,some ⟨e',.ints k cs⟩)]:=by
     intro i e' k' ns cs n hw;obtain⟨w',h1,h2⟩:=hw;exact⟨ρ,_,w',.inl (mQ ho (f:=Builtin.copy_) (fun _ _=>rfl) h1),(h2.more id).pure hd ⟨rfl,rfl⟩ (by simp[oK])⟩
    split at he
    ·rename_i i n ms jU aRZ;rw[jU]at hy;obtain⟨cap,hv,Dj,hc,_⟩:=hy;split at he
     ·rename_i e' k' ns hb;split at he
      ·rename_i hk;subst hk;obtain⟨e1,e2⟩:=Prod.mk.inj (Option.some.inj he);rw[<-e1,<-e2];obtain⟨hn,_⟩:=hc _ k ns hb rfl;obtain⟨A0,c0,aGU,lA⟩:=vD h aRZ;have:=Rs (P:=P) h (t':=t') (off:=0) (n:=n) (dcap:=cap) o.type vQ Mz hb (by omega) (some ⟨ρ i,0,none⟩) (fun _=>rfl) A0 c0 lA;simp only[List.take_zero,List.nil_append,bYP]at this;refine fin (k':=k) (ns:=ns) ?_;simp only[bZI,bYM,bZF,hv,aGU];exact this
      ·cases he
     ·cases he
    ·rename_i i off n ms jU aRZ;rw[jU]at hy;obtain⟨Ad,cap,hv,Dj,hA,hc⟩:=xP hy;split at he
     ·rename_i e' k' ns hb;split at he
      ·rename_i hk;obtain⟨rfl,hle⟩:=hk;obtain⟨e1,e2⟩:=Prod.mk.inj (Option.some.inj he);rw[<-e1,<-e2];obtain⟨A0,c0,aGU,lA⟩:=vD h aRZ;have:=Rs (P:=P) h (t':=t') (off:=off) (n:=n) (dcap:=cap) o.type vQ Mz hb hle Ad hA A0 c0 lA;refine fin (k':=k) (ns:=ns) ?_;simp only[bZI,bYM,bZF,hv,aGU];exact this
      ·cases he
     ·cases he
    ·cases he
   ·cases he
  ·cases he
 | [],_,he=>simp at he
 | [_],_,he=>simp at he
 |_ :: _ :: _ :: _,_,he=>simp at he
 | [_,_],[],he=>simp at he
 | [_,_],[_],he=>simp at he
 | [_,_],_ :: _ :: _ :: _,he=>simp at he
def oZ(Y:Nat->Prop)(w:World):D->Value->Prop
 | .s x,v=>rI Y w x v
 | .rows sz n f,v=>∃A c,v=.slice A n c/\n<=c/\∀i,i<n->(f i).length=sz/\∃b off,A=some ⟨b,off,none⟩/\vM Y w b (off+i*sz) (f i)
 | .agg cs,v=>∃arr,v=.agg arr/\jI Y w cs arr.toList
 | .own _ k ns,v=>rI Y w (.ints k ns) v
 | .io _ _ _ _ _,_=>False
 | .back _ _ _,_=>False
def Sc(base:Nat)(w:World)(g:Nat)(e:TypeId)(k:IntKind)(ns:List Int)(v:Value):Prop :=
 ∃arr cap,v=.slice (some ⟨g,0,none⟩) ns.length cap/\base<=g/\w.heap[g]?=some (.cells arr e (0,0))/\ns.length<=cap/\cap<=arr.size/\cap<=maxLen/\∀(j:Nat) (n:Int),ns[j]?=some n->arr[j]?=some (Value.int k n)
def mF:D->Bool
 | .own _ _ _=>true
 |_=>false
def aCI(Y:Nat->Prop)(base:Nat)(w:World)(rs:List D)(vs:List Value):Prop :=
 ∃g:Nat->Nat,rs.length=vs.length/\(∀(i j:Nat) (d d':D),rs[i]?=some d->rs[j]?=some d'->mF d=true->mF d'=true->g i=g j->i=j) /\
  ∀(i:Nat) (d:D) (v:Value),rs[i]?=some d->vs[i]?=some v->match d with
   | .own e k ns=>Sc base w (g i) e k ns v
   |d=>oZ (fun b=>Y b\/∃(j:Nat) (d':D),rs[j]?=some d'/\mF d'=true/\g j=b) w d v
def resV:List Value->Value
 | [v]=>v
 |vs=>.tuple vs.toArray
def Contract(P:Program)(glob:Nat->Option (IntKind×List Int))(f:FuncId)(ds rs:List D):Prop :=
 ∀(Y:Nat->Prop) (w:World) (vs:List Value),(∀b,Y b->b<w.heap.size)->GlobOk glob Y w->ds.length=vs.length ->
  (∀(i:Nat) (d:D) (v:Value),ds[i]?=some d->vs[i]?=some v->oZ Y w d v) ->
  Calls P f vs.toArray w fun e w'=>∃Ae,e=.returned (resV Ae)/\Below w.heap.size w w'/\aCI Y w.heap.size w' rs Ae
def aCE(w:World)(g len off n:Nat)(v:Value):Prop :=
 ∃o' cap,v=.slice (some ⟨g,o',none⟩) n cap/\n<=cap/\(0<n->o'=off)/\(off=0->o'=0)/\off+n<=len/\cap<=maxLen/\cap<=nB w g
def bAU(w:World)(g:Nat)(e:TypeId)(k:IntKind)(ns:List Int)(off n:Nat)(v:Value):Prop :=
 aCE w g ns.length off n v/\Hd (fun _=>False) w g ⟨e,.ints k ns⟩
def Gi:D->Bool
 | .io _ _ _ _ _=>true
 |_=>false
def aGC(Y:Nat->Prop)(w:World)(g:Nat->Nat)(i:Nat)(v:Value):D->Prop
 | .io e k ns off n=>Y (g i)/\bAU w (g i) e k ns off n v
 |d=>oZ Y w d v
def Vr(w:World)(b:Nat):D->Prop
 | .io e k ns _ _=>Hd (fun _=>False) w b ⟨e,.ints k ns⟩
 |_=>False
structure Ew(M:Nat->Prop)(w w':World):Prop where
 os:w'.os=w.os
 tape:w'.tape=w.tape
 output:w'.output=w.output
 size:w.heap.size<=w'.heap.size
 block:∀b,b<w.heap.size->¬M b->w'.heap[b]?=w.heap[b]?
 room:∀b,M b->nB w' b=nB w b
def En(ps:List Nat)(g:Nat->Nat)(b:Nat):Prop:=∃i,i∈ps/\g i=b
def aVQ(ps:List Nat)(ds js:List D):Prop :=
 ∀(j i:Nat),ps[j]?=some i->∃e k ns off n e' k' oR,ds[i]?=some (.io e k ns off n)/\js[j]?=some (.io e' k' oR 0 0)/\oR.length=ns.length
def bMU(Y:Nat->Prop)(base:Nat)(w:World)(ps:List Nat)(js:List D)(g0:Nat->Nat)(gi:Nat)(v:Value):D->Prop
 | .own e k ns=>Sc base w gi e k ns v
 | .back p off n=>∃(j:Nat) (e:TypeId) (k:IntKind) (ns:List Int),ps[j]?=some p/\js[j]?=some (.io e k ns 0 0)/\aCE w (g0 p) ns.length off n v
 |d=>oZ Y w d v
def Vg(Y:Nat->Prop)(base:Nat)(w:World)(ps:List Nat)(js:List D)(g0:Nat->Nat)(rs:List D)(vs:List Value):Prop :=
 ∃g:Nat->Nat,rs.length=vs.length/\(∀(i j:Nat) (d d':D),rs[i]?=some d->rs[j]?=some d'->mF d=true->mF d'=true->g i=g j->i=j) /\
  ∀(i:Nat) (d:D) (v:Value),rs[i]?=some d->vs[i]?=some v->bMU (fun b=>Y b\/∃(j:Nat) (d':D),rs[j]?=some d'/\mF d'=true/\g j=b) base w ps js g0 (g i) v d
structure qN(P:Program)(glob:Nat->Option (IntKind×List Int))(f:FuncId)(ps:List Nat)(ds rs js:List D):Prop where
 len:js.length=ps.length
 io:aVQ ps ds js
 run:∀(Y:Nat->Prop) (w:World) (vs:List Value) (g:Nat->Nat),(∀b,Y b->b<w.heap.size)->GlobOk glob Y w->ds.length=vs.length ->
  (∀(i:Nat) (d:D) (v:Value),ds[i]?=some d->vs[i]?=some v->aGC Y w g i v d)->(∀i j,i∈ps->j∈ps->g i=g j->i=j) ->
  Calls P f vs.toArray w fun e w'=>∃Ae,e=.returned (resV Ae)/\Ew (En ps g) w w'/\Vg Y w.heap.size w' ps js g rs Ae/\∀(j i:Nat) (d:D),ps[j]?=some i->js[j]?=some d->Vr w' (g i) d
def xC(P:Program)(f:FuncId):Prop:=∀(vs:Array Value) (w:World),(callFunc f vs).run P w=.ok (.enter f vs) w
structure mD(P:Program)(E:Env):Prop where
 c:∀f ds g rs,E.ioF f=[]->E.C f ds=some (g,rs)->g->Contract P E.glob f ds rs/\xC P f
 i:∀f p ps ds g rs,E.ioF f=p :: ps->E.C f ds=some (g,rs)->g->∃Hv js,rs=Hv ++ js/\qN P E.glob f (p :: ps) ds Hv js/\xC P f
 x:∀f vs g rs,E.ext f vs=some (g,rs)->g->(∀v∈rs,v.oneCell'=true)/\∀w,(callFunc f vs.toArray).run P w=.ok (.value (resV rs)) w
theorem oZ.later{Y Y':Nat->Prop}{w w':World}(h:jB Y w Y' w'){d:D}{v:Value}(r:oZ Y w d v):oZ Y' w' d v:=by
 cases d with
 |s x=>exact rI.later h r
 |rows sz n f =>
  obtain⟨A0,c,hv,hle,hc⟩:=r;refine⟨A0,c,hv,hle,fun i hi=>?_⟩;obtain⟨hl,b,off,hA,Xx⟩:=hc i hi;exact⟨hl,b,off,hA,Xx.later h⟩
 |agg cs=>obtain⟨arr,hv,hr⟩:=r;exact⟨arr,hv,hr.later h⟩
 |own e k ns=>exact rI.later (s:=.ints k ns) h r
 |io=>exact r
 |back=>exact r
theorem rI.any{Y Y':Nat->Prop}{w w':World}{x:S}{v:Value}(hs:Ki x=false)(r:rI Y w x v):rI Y' w' x v:=by
 cases x with
 |sc u=>exact r
 |bot=>exact r
 |ints k ns=>cases hs
theorem oZ.any{Y Y':Nat->Prop}{w w':World}{d:D}{v:Value}(hs:shares d=false)(ho:mF d=false)(r:oZ Y w d v):oZ Y' w' d v:=by
 cases d with
 |s x=>exact rI.any hs r
 |rows sz n f=>cases hs
 |agg cs =>
  obtain⟨arr,hv,hl,hr⟩:=r;refine⟨arr,hv,hl,fun i s u h1 h2=>(hr i s u h1 h2).any ?_⟩;have:=List.any_eq_false.1 (show cs.any Ki=false from hs) s (bYW h1);simpa using this
 |own e k ns=>cases ho
 |io=>exact r
 |back=>exact r
def aBZ(args:List A):sU:=(args.flatMap refs).map fun i=>(i,none)
theorem Yx(args:List A):Cons (aBZ args):=by
 intro p hp;obtain⟨i,_,rfl⟩:=List.mem_map.1 hp;rfl
theorem Hp(h:jX E X w0 ρ al fr hp a w){u:sU}(hu:Cons u){y:A}{v:Value}(hr:zY ρ hp (XO X ρ hp) w y v)(aBB:∀i∈refs y,(i,none)∈u){d:D}(hd:toD hp y=some d):oZ (XO X ρ (applyUps u hp)) w d v:=by
 have hl:jB (XO X ρ hp) w (XO X ρ (applyUps u hp)) w:=jB.cons hu;unfold toD at hd;split at hd
 ·cases hd;obtain⟨arr,hv,hs⟩:=hr;exact⟨arr,hv,hs.later hl⟩
 ·cases hd;exact rI.later hl hr
 ·cases hd;exact oZ.later hl (d:=.rows _ _ _) hr
 ·rename_i i n;split at hd
  ·rename_i e k ns hb;cases hd;obtain⟨cap,hv,Dj,hc,_⟩:=hr;obtain⟨hn,_⟩:=hc _ k ns hb rfl;subst hn;refine⟨_,cap,hv,Dj,fun j m hj=>⟨ρ i,0,rfl,h.jY hb,h.Xz hb hu (aBB i (by simp[refs,refsV,refsL])),?_⟩⟩;rw[bYP];exact h.zM hb hj
  ·rename_i e cs hb;split at hd
   ·rename_i hlen;cases hd;obtain⟨cap,hv,Dj,_⟩:=hr;refine⟨_,cap,hv,Dj,fun j hj=>?_⟩;have hle:(j+1)*(cs.length/n)<=n*(cs.length/n):=cAA _ hj;rw[bZH,Nat.one_mul]at hle;refine⟨by simp;omega,ρ i,0,rfl,fun m s hm=>?_⟩;have bKG:m<cs.length/n:=by
     have:=bB hm;simp at this;omega
    rw[bYS bKG,bYZ]at hm;obtain⟨_,hB⟩:=h.blk i _ hb;obtain⟨arr,Rm,aYX⟩:=hB;obtain⟨aVD,Xx⟩:=aYX;obtain⟨u0,aUZ,bOU⟩:=Xx _ _ hm;refine⟨h.jY hb,h.Xz hb hu (aBB i (by simp[refs,refsV,refsL])),u0,?_,rI.later hl bOU⟩;rw[cell_of_row w (ρ i) _ arr e (0,0) Rm,bYP];exact aUZ
   ·cases hd
  ·cases hd
 ·rename_i i off n;split at hd
  ·rename_i e k ns hb;cases hd;obtain⟨A0,cap,hv,Dj,hA,hc⟩:=xP hr;have hle:=hc _ k ns hb rfl;have hlen:((ns.drop off).take n).length=n:=by simp;omega
   refine⟨A0,cap,by rw[hlen];exact hv,by rw[hlen];exact Dj,fun j m hj=>?_⟩;have aBA:j<n:=by have:=bB hj;omega
   refine⟨ρ i,off,hA (by omega),h.jY hb,h.Xz hb hu (aBB i (by simp[refs,refsV,refsL])),?_⟩;rw[bYS aBA,bYZ]at hj;exact h.zM hb hj
  ·cases hd
 ·cases hd
theorem jX.called(h:jX E X w0 ρ al fr hp a w){w':World}(hB:Below w.heap.size w w'){ρ':Nat->Nat}{hp':Nat->Option lO}{al':Nat->Prop}(tW:∀i,al i->al' i)
  (hold:∀i,al i->ρ' i=ρ i/\hp' i=hp i) (uL:∀i b,hp' i=some b->¬al i->al' i/\w.heap.size<=ρ' i/\∀Y,Hd Y w' (ρ' i) b)
  (Bk:∀i j b c,hp' i=some b->hp' j=some c->¬al i->¬al j->ρ' i=ρ' j->i=j):jX E X w0 ρ' al' fr hp' a w'/\jB (XO X ρ hp) w (XO X ρ' hp') w':=by
 have aBD:Kept w0 w w':=⟨hB.os,hB.tape,hB.output,hB.size,fun b hb=>hB.block b (by have:=h.below.size;have:=Old.Wy hb;omega),fun b hb=>yI (hB.block b (by have:=h.below.size;have:=w0.bCR b hb;omega))⟩;have hl:jB (XO X ρ hp) w (XO X ρ' hp') w':=by
  refine⟨hB.size,fun b hb hx=>⟨hB.block b hb,fun ho=>?_⟩⟩;rcases ho with ho |⟨i,bl,h1,h2⟩
  ·exact hx (.inl ho)
  ·by_cases hi:al i
   ·obtain⟨e1,e2⟩:=hold i hi;exact hx (.inr ⟨i,bl,by rw[<-e2];exact h1,by rw[<-e1];exact h2⟩)
   ·have:=(uL i bl h1 hi).2.1;omega
 refine⟨h.change hl aBD ?_ ?_ ?_ tW ?_,hl⟩
 ·intro i hi;obtain⟨e1,e2⟩:=hold i hi;refine⟨e1,fun b' xO=>?_⟩;rw[e2]at xO;refine⟨b',xO,sameShape.refl _,?_⟩;unfold nB;rw[hB.block _ (h.jY xO)]
 ·intro i b hb
  by_cases hi:al i
  ·obtain⟨e1,e2⟩:=hold i hi;rw[e2]at hb;rw[e1];exact⟨(h.blk i b hb).1,(h.blk i b hb).2.later hl (hB.block _ (h.jY hb))⟩
  ·obtain⟨_,h2,h3⟩:=uL i b hb hi;exact⟨.inl (bZJ h.below.size h2),h3 _⟩
 ·intro i j b c hb hc e
  by_cases hi:al i
  ·obtain⟨e1,e2⟩:=hold i hi
   by_cases hj:al j
   ·obtain⟨e3,e4⟩:=hold j hj;rw[e2]at hb;rw[e4]at hc;rw[e1,e3]at e;exact h.inj i j b c hb hc e
   ·rw[e2]at hb;have:=h.jY hb;have:=(uL j c hc hj).2.1;omega
  ·by_cases hj:al j
   ·obtain⟨e3,e4⟩:=hold j hj;rw[e4]at hc;have:=h.jY hc;have:=(uL i b hb hi).2.1;omega
   ·exact Bk i j b c hb hc hi hj e
 ·intro i b hb
  by_cases hi:al i
  ·exact tW i hi
  ·exact(uL i b hb hi).1
theorem jX.aNX(h:jX E X w0 ρ al fr hp a w){w':World}{M:Nat->Prop}(hB:Ew M w w')(hM:∀b,M b->aQB ρ hp b){ρ':Nat->Nat}{hp':Nat->Option lO}{al':Nat->Prop}(tW:∀i,al i->al' i)
  (hρ:∀i,al i->ρ' i=ρ i)
  (hold:∀i b',al i->hp' i=some b'->(¬M (ρ i)/\hp i=some b')\/(M (ρ i)/\∃b,hp i=some b/\sameShape b b'/\∀Y,Hd Y w' (ρ i) b'))
  (uL:∀i b,hp' i=some b->¬al i->al' i/\w.heap.size<=ρ' i/\∀Y,Hd Y w' (ρ' i) b)
  (Bk:∀i j b c,hp' i=some b->hp' j=some c->¬al i->¬al j->ρ' i=ρ' j->i=j):jX E X w0 ρ' al' fr hp' a w'/\jB (XO X ρ hp) w (XO X ρ' hp') w':=by
 have bED:∀b,M b->w0.Jx b:=fun b hb=>by
  obtain⟨id,bl,h1,rfl⟩:=hM b hb;exact(h.blk id bl h1).1.Jx
 have aBD:Kept w0 w w':=⟨hB.os,hB.tape,hB.output,hB.size,fun b hb=>hB.block b (by have:=h.below.size;have:=Old.Wy hb;omega) (fun hm=>hb (bED b hm)),fun b hb=>by
  by_cases hm:M b
  ·exact hB.room b hm
  ·exact yI (hB.block b (by have:=h.below.size;have:=w0.bCR b hb;omega) hm)⟩
 have Xu:∀i b',al i->hp' i=some b'->∃b,hp i=some b/\sameShape b b':=by
  intro i b' hi hb;rcases hold i b' hi hb with ⟨_,h2⟩ |⟨_,b,h2,h3,_⟩
  ·exact⟨b',h2,sameShape.refl _⟩
  ·exact⟨b,h2,h3⟩
 have hl:jB (XO X ρ hp) w (XO X ρ' hp') w':=by
  refine⟨hB.size,fun b hb hx=>⟨hB.block b hb (fun hm=>hx (.inr (hM b hm))),fun ho=>?_⟩⟩;rcases ho with ho |⟨i,bl,h1,h2⟩
  ·exact hx (.inl ho)
  ·by_cases hi:al i
   ·obtain⟨b0,h3,_⟩:=Xu i bl hi h1;exact hx (.inr ⟨i,b0,h3,by rw[<-hρ i hi];exact h2⟩)
   ·have:=(uL i bl h1 hi).2.1;omega
 have uJ:∀i b,al i->hp i=some b->nB w' (ρ i)=nB w (ρ i):=by
  intro i b hi hb
  by_cases hm:M (ρ i)
  ·exact hB.room _ hm
  ·exact yI (hB.block _ (h.jY hb) hm)
 refine⟨h.change hl aBD ?_ ?_ ?_ tW ?_,hl⟩
 ·intro i hi;refine⟨hρ i hi,fun b' xO=>?_⟩;obtain⟨b,h2,h3⟩:=Xu i b' hi xO;exact⟨b,h2,h3,uJ i b hi h2⟩
 ·intro i b hb
  by_cases hi:al i
  ·rw[hρ i hi];rcases hold i b hi hb with ⟨hm,h2⟩ |⟨_,b0,h2,_,h4⟩
   ·exact⟨(h.blk i b h2).1,(h.blk i b h2).2.later hl (hB.block _ (h.jY h2) hm)⟩
   ·exact⟨(h.blk i b0 h2).1,h4 _⟩
  ·obtain⟨_,h2,h3⟩:=uL i b hb hi;exact⟨.inl (bZJ h.below.size h2),h3 _⟩
 ·intro i j b c hb hc e
  by_cases hi:al i
  ·obtain⟨b0,h1,_⟩:=Xu i b hi hb
   by_cases hj:al j
   ·obtain⟨c0,h2,_⟩:=Xu j c hj hc;rw[hρ i hi,hρ j hj]at e;exact h.inj i j b0 c0 h1 h2 e
   ·rw[hρ i hi]at e;have:=h.jY h1;have:=(uL j c hc hj).2.1;omega
  ·by_cases hj:al j
   ·obtain⟨c0,h2,_⟩:=Xu j c hj hc;rw[hρ j hj]at e;have:=h.jY h2;have:=(uL i b hb hi).2.1;omega
   ·exact Bk i j b c hb hc hi hj e
 ·intro i b hb
  by_cases hi:al i
  ·exact tW i hi
  ·exact(uL i b hb hi).1
theorem Au(keep:Bool):∀(rs:List D) (id:Nat),(takeAll keep id rs).1.length=rs.length
 | [],_=>rfl
 |d :: r,id=>by simp[takeAll,Au keep r (id+1)]
theorem Av(keep:Bool):∀(rs:List D) (id:Nat) (i:Nat) (d:D),rs[i]?=some d->(takeAll keep id rs).1[i]?=some (takeIn keep (id+i) d).1
 |d0 :: r,id,0,d,h=>by simp at h;subst h;rfl
 |d0 :: r,id,i+1,d,h=>by
  simp only[cAK]at h;have:=Av keep r (id+1) i d h;simp only[takeAll,cAK,this];rw[show id+1+i=id+(i+1) by omega]
theorem takeAll_ups(keep:Bool):∀(rs:List D) (id:Nat) (hp:Nat->Option lO) (j:Nat),
  applyUps (takeAll keep id rs).2 hp j=match (if id<=j then rs[j-id]? else none)with
   |some (.own e k ns)=>if keep=true then some ⟨e,.ints k ns⟩else hp j
   |_=>hp j
 | [],id,hp,j=>by simp[takeAll,applyUps]
 |d :: r,id,hp,j=>by
  simp only[takeAll];rw[mM,takeAll_ups keep r (id+1)]
  by_cases hj:id+1<=j
  ·rw[if_pos hj,aR];have e:j-id=(j-(id+1))+1:=by omega
   rw[e,cAK];have hd:applyUps (takeIn keep id d).2 hp j=hp j:=by
    cases d <;> cases keep <;> first |rfl | (simp only[takeIn,cond_true,applyUps];rw[gK _ _ (by omega)])
   rw[hd]
  ·rw[if_neg hj]
   by_cases bUT:id<=j
   ·obtain rfl:j=id:=by omega
    rw[if_pos (bYN _),Nat.sub_self];cases d <;> cases keep <;> simp[takeIn,applyUps,cH]
   ·rw[if_neg bUT];cases d <;> cases keep <;> first |rfl | (simp only[takeIn,cond_true,applyUps];rw[gK _ _ (by omega)])
end
end AI
namespace AI
open Go Go.RowKit
section
variable {P:Program} {E:Env} {X:Nat->Prop} {w0:Old} {ρ:Nat->Nat} {al:Nat->Prop} {fr:Nat->A} {hp:Nat->Option lO} {a:Act} {w:World} {o:Oper} {id:Nat} {x:A} {u:sU}
def Vd(P:Program)(E:Env)(X:Nat->Prop)(w0:Old)(al:Nat->Prop)(fr:Nat->A)(hp:Nat->Option lO)(a:Act)(w:World)(o:Oper)(id:Nat)(x:A)(u:sU):Prop :=
 ∀(next:Act->World->Prop) (Q:Exit->Act->World->Prop),(∀ρ' v w',jX E X w0 ρ' (pY al id) (Ei o x fr) (applyUps u hp) (a.put o.dst v) w'->next (a.put o.dst v) w')->o.wp P a w next Q
theorem kW.step(h:kW P E X w0 al fr hp a w o id x u):Vd P E X w0 al fr hp a w o id x u:=by
 intro next Q hn;obtain⟨ρ',v,w',hr,hs⟩:=h;unfold Oper.wp;rcases hr with hr |⟨hr,rfl⟩
 ·rw[hr];exact hn ρ' v w' hs
 ·rw[hr];exact hn ρ' undef w' hs
theorem Xg{α β:Type}{f:α->Option β}:∀{l:List α} {r:List β},l.mapM f=some r->∀(i:Nat) (y:β),r[i]?=some y->∃x,l[i]?=some x/\f x=some y
 | [],r,h,i,y,hy=>by simp at h;subst h;simp at hy
 |x :: l,r,h,i,y,hy=>by
  rw[bZU]at h;simp only[cAS,cAT,cAU,Option.some.injEq]at h;obtain⟨z,hz,zs,aEL,rfl⟩:=h
  match i with
  |0=>simp at hy;subst hy;exact⟨x,rfl,hz⟩
  |i+1=>simp at hy ⊢;exact Xg aEL i y hy
theorem aAQ{args:List A}{y:A}(hy:y∈args){i:Nat}(hi:i∈refs y):(i,none)∈aBZ args :=
 List.mem_map.2 ⟨i,List.mem_flatMap.2 ⟨y,hy,hi⟩,rfl⟩
theorem Ds(h:jX E X w0 ρ al fr hp a w):∀{args:List Operand} {vs:List Value},argVals (args.map (evA E fr))=some vs->args.map a.eval=vs
 | [],vs,he=>by cases he;rfl
 |y :: ys,vs,he=>by
  simp only[bYM]at he ⊢;unfold argVals at he;split at he
  ·cases ‹_ :: _=[]›
  ·rename_i v r jU;obtain⟨e1,e2⟩:=List.cons.inj jU;obtain⟨vr,bOJ,rfl⟩:=Option.map_eq_some_iff.1 he;have hy:=(h.ev y).1;rw[e1]at hy;rw[<-e2]at bOJ;rw[Ds h bOJ,hy.1]
  ·cases he
theorem Nl{R:Type}{g:Prop}{x:Option R}{r:R}(h:aN g x=some r):g/\x=some r:=by
 unfold aN at h;split at h
 ·rename_i hg;exact⟨hg,h⟩
 ·cases h
theorem aEY{R:Type}{g:Prop}{x:Option R}(h:g):aN g x=x:=by unfold aN;rw[if_pos h]
theorem aST (h : jX E X w0 ρ al fr hp a w) (hd : kD E.nt o = true) (hC : mD P E) {f : FuncId} {fo : Operand} (hf : a.eval fo = .func (.func f) #[] #[]) {args : List Operand} {yQ : Array TypeId} (ho : o.op = .call ⟨.value fo, args.toArray, yQ⟩) {g : Prop} {rs : List Value} (hr : (argVals (args.map (evA E fr))).bind (E.ext f) = some (g, rs)) (hg : g)
    (he : some (bCN rs, []) = some (x, u)) : kW P E X w0 al fr hp a w o id x u := by
  obtain ⟨vs, bJM, hx⟩ := Option.bind_eq_some_iff.1 hr
  obtain ⟨Qa, hI⟩ := hC.x f vs g rs hx hg
  have hargs := Ds h bJM
  have hex : (execOp a.eval o).run P w = .ok (.value (resV rs)) w := by
    unfold execOp
    rw [ho]
    simp only [resolve, hf, Deferred.ofValue, Sem.run_bind, Sem.run_pure, Result.andThen_ok, invoke]
    rw [← hI w]
    congr 1
    simp [← hargs]
  match rs, he with
  | [v], he =>
    obtain ⟨e1, e2⟩ := Prod.mk.inj (Option.some.inj he)
    rw [← e1, ← e2]
    exact dJ h hd hex ⟨rfl, Qa v (by simp)⟩ (by intro i hi; cases hi)
  | [], he =>
    obtain ⟨e1, e2⟩ := Prod.mk.inj (Option.some.inj he)
    rw [← e1, ← e2]
    exact dJ h hd hex ⟨#[], rfl, rfl, fun i y v hy => by simp at hy⟩ (by intro i hi; cases hi)
  | v1 :: v2 :: vr, he =>
    obtain ⟨e1, e2⟩ := Prod.mk.inj (Option.some.inj he)
    rw [← e1, ← e2]
    refine dJ h hd hex ⟨(v1 :: v2 :: vr).toArray, rfl, by simp, fun i y v hy hv => ?_⟩ ?_
    · simp only [bYR, bZR] at hy
      obtain ⟨q, hq, rfl⟩ := hy
      have : q = v := by have : (v1 :: v2 :: vr)[i]? = some v := by simpa using hv
                         rw [hq] at this; exact Option.some.inj this
      subst this
      exact ⟨rfl, Qa q (bYW hq)⟩
    · intro j hj
      obtain ⟨y, hy, hj⟩ := List.mem_flatMap.1 hj
      obtain ⟨q, _, rfl⟩ := List.mem_map.1 hy
      simp [refsV, refsL] at hj
theorem aEI:∀{l r:List Nat},leqN l r=true->l=r
 | [],[],_=>rfl
 |a :: l,b :: r,h=>by
  simp only[leqN,bYT]at h;rw[bZB h.1,aEI h.2]
 | [],_ :: _,h=>by cases h
 |_ :: _,[],h=>by cases h
theorem Bs(ps:List Nat)(hp:Nat->Option lO):∀(args:List A) (i:Nat) (us:List (Nat×Nat)) (ds:List D),argsIO ps hp i args=some (us,ds) ->
  (∃gid:Nat->Nat,∀q∈us,i<=q.1/\gid q.1=q.2)/\(∀q∈us,∃y d,args[q.1-i]?=some y/\i<=q.1/\toIO hp y=some (q.2,d)/\ds[q.1-i]?=some d)/\ds.length=args.length /\
  ∀(j:Nat) (d:D),ds[j]?=some d->∃y,args[j]?=some y/\((∃k,toIO hp y=some (k,d)/\(i+j,k)∈us)\/(toD hp y=some d/\∀r∈refs y,r∈rL ps i args))
 | [],i,us,ds,h=>by
  cases h;exact⟨⟨fun _=>0,fun q hq=>by cases hq⟩,fun q hq=>(by cases hq),rfl,fun j d hj=>by simp at hj⟩
 |y :: args,i,us,ds,h=>by
  unfold argsIO at h;cases Ty:ps.elem i with
  |true =>
   rw[Ty]at h;simp only[cond_true]at h;split at h
   ·rename_i k d Nf;split at h
    ·rename_i bNO ds' hr;cases h;obtain⟨⟨gid,h1⟩,h2,h3,h4⟩:=Bs ps hp args (i+1) bNO ds' hr;refine⟨⟨fun q=>if q=i then k else gid q,?_⟩,?_,by simp[h3],?_⟩
     ·intro q hq;rcases List.mem_cons.1 hq with rfl |hq
      ·exact⟨bYN _,by simp⟩
      ·obtain⟨h5,h6⟩:=h1 q hq;exact⟨by omega,by simp only;rw[bI];exact h6⟩
     ·intro q hq;rcases List.mem_cons.1 hq with rfl |hq
      ·exact⟨y,d,by simp,bYN _,Nf,by simp⟩
      ·obtain⟨y',d',h5,h6,h7,h8⟩:=h2 q hq;exact⟨y',d',by rw[show q.1-i=(q.1-(i+1))+1 by omega];simpa using h5,by omega,h7,by rw[show q.1-i=(q.1-(i+1))+1 by omega];simpa using h8⟩
     ·intro j d' hj
      match j with
      |0 =>
       simp at hj;subst hj;exact⟨y,rfl,.inl ⟨k,Nf,by simp⟩⟩
      |j+1 =>
       obtain⟨y',h5,h6⟩:=h4 j d' (by simpa using hj);refine⟨y',by simpa using h5,?_⟩;rcases h6 with ⟨k',h7,h8⟩ |⟨h7,h8⟩
       ·exact .inl ⟨k',h7,bZG _ (by rw[show i+(j+1)=i+1+j by omega];exact h8)⟩
       ·exact .inr ⟨h7,fun r hr=>by unfold rL;exact cBE _ (h8 r hr)⟩
    ·cases h
   ·cases h
  |false =>
   rw[Ty]at h;simp only[cond_false]at h;split at h
   ·rename_i d Nf;split at h
    ·rename_i bNO ds' hr;cases h;obtain⟨⟨gid,h1⟩,h2,h3,h4⟩:=Bs ps hp args (i+1) us ds' hr;refine⟨⟨gid,fun q hq=>⟨by have:=(h1 q hq).1;omega,(h1 q hq).2⟩⟩,?_,by simp[h3],?_⟩
     ·intro q hq;obtain⟨y',d',h5,h6,h7,h8⟩:=h2 q hq;exact⟨y',d',by rw[show q.1-i=(q.1-(i+1))+1 by omega];simpa using h5,by omega,h7,by rw[show q.1-i=(q.1-(i+1))+1 by omega];simpa using h8⟩
     ·intro j d' hj
      match j with
      |0 =>
       simp at hj;subst hj;exact⟨y,rfl,.inr ⟨Nf,fun r hr=>by unfold rL;rw[Ty];exact List.mem_append_left _ hr⟩⟩
      |j+1 =>
       obtain⟨y',h5,h6⟩:=h4 j d' (by simpa using hj);refine⟨y',by simpa using h5,?_⟩;rcases h6 with ⟨k',h7,h8⟩ |⟨h7,h8⟩
       ·exact .inl ⟨k',h7,by rw[show i+(j+1)=i+1+j by omega];exact h8⟩
       ·exact .inr ⟨h7,fun r hr=>by unfold rL;exact cBE _ (h8 r hr)⟩
    ·cases h
   ·cases h
theorem Jr:∀(us:List (Nat×Nat)) (js:List D) (ub:sU),backIO us js=some ub->ub.map (·.1)=us.map (·.2)/\∀(j:Nat) (q:Nat×Nat),us[j]?=some q->∃e k ns o n,js[j]?=some (.io e k ns o n)/\ub[j]?=some (q.2,some ⟨e,.ints k ns⟩)
 | [],[],ub,h=>by cases h;exact⟨rfl,fun j q hj=>by simp at hj⟩
 | (p,k) :: us,d :: js,ub,h=>by
  cases d with
  |io e kk ns o n =>
   simp only[backIO]at h;split at h
   ·rename_i bRI hr;cases h;obtain⟨h1,h2⟩:=Jr us js bRI hr;refine⟨by simp[h1],fun j q hj=>?_⟩
    match j with
    |0=>simp at hj;subst hj;exact⟨e,kk,ns,o,n,rfl,rfl⟩
    |j+1 =>
     obtain⟨e',k',oR,o',n',h3,h4⟩:=h2 j q (by simpa using hj);exact⟨e',k',oR,o',n',by simpa using h3,by simpa using h4⟩
   ·cases h
  |s=>cases h
  |rows=>cases h
  |agg=>cases h
  |own=>cases h
  |back=>cases h
 | [],_ :: _,ub,h=>by cases h
 |_ :: _,[],ub,h=>by cases h
theorem tO{i:Nat}:∀{u:sU} {hp:Nat->Option lO},i ∉ u.map (·.1)->applyUps u hp i=hp i
 | [],_,_=>rfl
 | (j,b) :: u,hp,h=>by
  simp only[bYM,bZT,not_or]at h;simp only[applyUps];rw[tO h.2,gK _ _ h.1]
theorem Js{i:Nat}{b:Option lO}:∀{u:sU} {hp:Nat->Option lO} {j:Nat},nodup (u.map (·.1))=true->u[j]?=some (i,b)->applyUps u hp i=b
 | [],_,j,_,h=>by simp at h
 | (k,c) :: u,hp,j,hn,h=>by
  simp only[bYM,nodup,bYT,bZV]at hn
  match j with
  |0 =>
   simp at h;obtain⟨rfl,rfl⟩:=h;simp only[applyUps];rw[tO (fun hm=>by
    have:(u.map (·.1)).elem k=true:=by simpa using hm
    rw[this]at hn;cases hn.1),cH]
  |j+1 =>
   simp only[applyUps];exact Js (j:=j) hn.2 (by simpa using h)
theorem Hx{α:Type}{f:α->Nat}:∀{l:List α} {j j':Nat} {q q':α},nodup (l.map f)=true->l[j]?=some q->l[j']?=some q'->f q=f q'->j=j'
 | [],j,_,q,_,_,h,_,_=>by simp at h
 |y :: l,j,j',q,q',hn,h,h',he=>by
  simp only[bYM,nodup,bYT,bZV]at hn;have Cy:∀z∈l,f z≠f y:=fun z hz e=>by
   have:(l.map f).elem (f y)=true:=by
    have:f y∈l.map f:=List.mem_map.2 ⟨z,hz,e⟩;simpa using this
   rw[this]at hn;cases hn.1
  match j,j' with
  |0,0=>rfl
  |0,j'+1=>simp at h h';subst h;exact absurd he.symm (Cy q' (bYW h'))
  |j+1,0=>simp at h h';subst h';exact absurd he (Cy q (bYW h))
  |j+1,j'+1=>exact congrArg (·+1) (Hx hn.2 (by simpa using h) (by simpa using h') he)
theorem aNG{xs ys:List Nat}(h:Qk xs ys=true){x:Nat}(hx:x∈xs):x ∉ ys:=fun hy=>by
 have:=List.all_eq_true.1 h x hx;have h2:ys.elem x=true:=by simpa using hy
 rw[h2]at this;cases this
theorem Ho{y:A}{k:Nat}{d:D}(h:toIO hp y=some (k,d)):∃e kk ns off n,d=.io e kk ns off n/\hp k=some ⟨e,.ints kk ns⟩/\((y=.v (.one (.buf k n))/\off=0)\/y=.v (.one (.view k off n))):=by
 unfold toIO at h;split at h
 ·split at h
  ·rename_i e kk ns hb;cases h;exact⟨_,_,_,_,_,rfl,hb,.inl ⟨rfl,rfl⟩⟩
  ·cases h
 ·split at h
  ·rename_i e kk ns hb;cases h;exact⟨_,_,_,_,_,rfl,hb,.inr rfl⟩
  ·cases h
 ·cases h
theorem aAA(h:jX E X w0 ρ al fr hp a w){y:A}{v:Value}(hr:zY ρ hp (XO X ρ hp) w y v){k:Nat}{e:TypeId}{kk:IntKind}{ns:List Int}{off n:Nat}(hd:toIO hp y=some (k,.io e kk ns off n)):bAU w (ρ k) e kk ns off n v:=by
 obtain⟨e',kk',oR,bCT,n',heq,hb,hy⟩:=Ho hd;cases heq;have hB:Hd (fun _=>False) w (ρ k) ⟨e,.ints kk ns⟩:=(h.blk k _ hb).2;rcases hy with ⟨rfl,rfl⟩ |rfl
 ·obtain⟨cap,hv,Dj,hc,_⟩:=hr;have:=hc _ kk ns hb rfl;exact⟨⟨0,cap,hv,Dj,fun _=>rfl,fun _=>rfl,by omega,this.2.1,this.2.2⟩,hB⟩
 ·obtain⟨o',cap,hv,Dj,hA,hA0,hc⟩:=hr;have:=hc _ kk ns hb rfl;exact⟨⟨o',cap,hv,Dj,hA,hA0,this⟩,hB⟩
theorem aGF{y:A}{d:D}(h:toD hp y=some d):Gi d=false:=by
 unfold toD at h;split at h
 ·cases h;rfl
 ·cases h;rfl
 ·cases h;rfl
 ·split at h
  ·cases h;rfl
  ·split at h
   ·cases h;rfl
   ·cases h
  ·cases h
 ·split at h
  ·cases h;rfl
  ·cases h
 ·cases h
theorem Oc{Y:Nat->Prop}{w:World}{g:Nat->Nat}{i:Nat}{v:Value}{d:D}(hn:Gi d=false)(h:oZ Y w d v):aGC Y w g i v d:=by
 cases d with
 |io=>cases hn
 |s x=>exact h
 |rows a b c=>exact h
 |agg cs=>exact h
 |own a b c=>exact h
 |back=>exact h
theorem aEK{gid:Nat->Nat}:∀{us:List (Nat×Nat)} {q:Nat×Nat},(∀q∈us,gid q.1=q.2)->q∈us->idAt us q.1=gid q.1
 | [],q,_,h=>by cases h
 |q0 :: us,q,hg,h=>by
  simp only[idAt];cases hb:bYO q0.1 q.1 with
  |true =>
   rw[cond_true,<-bZB hb];exact(hg q0 (bYU ..)).symm
  |false =>
   rw[cond_false];rcases List.mem_cons.1 h with rfl |h
   ·rw[Nat.beq_refl]at hb;cases hb
   ·exact aEK (fun q hq=>hg q (bZG _ hq)) h
theorem aAN{us:List (Nat×Nat)}{d:D}{e:TypeId}{k:IntKind}{ns:List Int}(h:reBack us d=.own e k ns):d=.own e k ns:=by
 cases d <;> first |exact h |cases h
theorem eff_callIO(h:jX E X w0 ρ al fr hp a w)(hd:kD E.nt o=true)(hC:mD P E)(yB:∀j,j<8->¬al (id+j)){f:FuncId}{fo:Operand}(hf:a.eval fo=.func (.func f) #[] #[]){args:List Operand}{yQ:Array TypeId}(ho:o.op=.call ⟨.value fo,args.toArray,yQ⟩){p:Nat}{ps:List Nat}(Nf:E.ioF f=p :: ps)
  (he:callIO E (p :: ps) id (keepOf E o) f (args.map (evA E fr)) hp (fun a u=>some (a,u))=some (x,u)):Vd P E X w0 al fr hp a w o id x u:=by
 simp only[callIO,Fv]at he;generalize keepOf E o=keep at he;split at he
 ·cases he
 ·rename_i us ds bBO;cases aSG:leqN (us.map (·.1)) (p :: ps)&&(nodup (us.map (·.2))&&Qk (us.map (·.2)) (rL (p :: ps) 0 (args.map (evA E fr))))with
  |false=>rw[aSG]at he;cases he
  |true =>
  rw[aSG]at he;simp only[cond_true]at he;simp only[bYT]at aSG;obtain⟨aYS,aYB,bLC⟩:=aSG;have Ty:us.map (·.1)=p :: ps:=aEI aYS;split at he
  ·cases he
  ·rename_i gd rs bDO;obtain⟨bBL,he⟩:=Nl he;obtain⟨Hv,js,rfl,aMD,aMG⟩:=hC.i f p ps ds gd rs Nf bDO bBL;have bTK:us.length=(p :: ps).length:=by rw[<-Ty];simp
   have aHC:(Hv ++ js).length-us.length=Hv.length:=by rw[bZQ,aMD.len,bTK];omega
   rw[aHC]at he;rw[cAC,cBF]at he;cases aEU:bYQ us.length (Hv ++ js).length&&bYQ (Hv ++ js).length 8&&!(Hv.any shares)with
   |false=>rw[aEU]at he;cases he
   |true =>
   rw[aEU]at he;simp only[cond_true]at he;simp only[bYT,bZV]at aEU;obtain⟨⟨_,bUK⟩,bDW⟩:=aEU;have Xq:Hv.length<=8:=by have:=cAL bUK;rw[bZQ]at this;omega
   split at he
   ·cases he
   ·rename_i ub bTN;obtain⟨⟨gid,aLX⟩,bTJ,bBQ,bLA⟩:=Bs _ _ _ _ _ _ bBO;obtain⟨bDJ,bJQ⟩:=Jr _ _ _ bTN;rw[cAG]at bBQ;obtain⟨U,hU⟩:∃U:sU,U=(rL (p :: ps) 0 (args.map (evA E fr))).map fun i=>(i,none):=⟨_,rfl⟩
    have aPW:Cons U:=by rw[hU];intro q hq;obtain⟨i,_,rfl⟩:=List.mem_map.1 hq;rfl
    have bWB:U.map (·.1)=rL (p :: ps) 0 (args.map (evA E fr)):=by rw[hU,List.map_map];exact List.map_id _
    have Ka:∀q∈us,∃e kk ns off n,hp q.2=some ⟨e,.ints kk ns⟩/\ds[q.1]?=some (.io e kk ns off n):=by
     intro q hq;obtain⟨y,d,h1,_,h2,h3⟩:=bTJ q hq;obtain⟨e,kk,ns,off,n,rfl,h4,_⟩:=Ho h2;exact⟨e,kk,ns,off,n,h4,by simpa using h3⟩
    have aXT:∀q∈us,applyUps U hp q.2=hp q.2:=fun q hq=>tO (by rw[bWB];exact aNG bLC (List.mem_map.2 ⟨q,hq,rfl⟩))
    have qI:∀i,i∈p :: ps->∃q∈us,q.1=i/\gid i=q.2:=by
     intro i hi;rw[<-Ty]at hi;obtain⟨q,hq,rfl⟩:=List.mem_map.1 hi;exact⟨q,hq,rfl,(aLX q hq).2⟩
    have hY:∀b,XO X ρ (applyUps U hp) b->b<w.heap.size:=by
     rintro b (hb |⟨i,bl,h1,h2⟩)
     ·have:=Old.Wy (h.x0 b hb);have:=h.below.size;omega
     ·have:=h.jY (iO aPW h1);omega
    have hG:GlobOk E.glob (XO X ρ (applyUps U hp)) w:=by
     intro g k ns hg;obtain⟨h1,h2,h3⟩:=h.Ug g k ns hg;exact⟨h1,fun ho=>h2 (ho.imp (fun h=>h) (aQB.of_cons aPW)),h3.later (jB.cons aPW)⟩
    obtain⟨g0,hg0⟩:∃g0:Nat->Nat,g0=fun i=>ρ (gid i):=⟨_,rfl⟩
    have aVM:∀b,En (p :: ps) g0 b->∃q∈us,ρ q.2=b:=by
     rintro b ⟨i,hi,rfl⟩;obtain⟨q,hq,_,h2⟩:=qI i hi;exact⟨q,hq,by rw[hg0];simp only;rw[h2]⟩
    have aMF:=aMD.run (XO X ρ (applyUps U hp)) w (args.map a.eval) g0 hY hG (by simp[bBQ]) (fun i d v hi hv=>by
     obtain⟨y,aLK,aXO⟩:=bLA i d hi;simp only[bYR,bZR]at aLK hv;obtain⟨z,hz,rfl⟩:=aLK;obtain⟨z',aXN,rfl⟩:=hv;rw[hz]at aXN;cases aXN;have jU:=h.ev z;rcases aXO with ⟨k,h1,h2⟩ |⟨h1,h2⟩
     ·rw[bYP]at h2;obtain⟨e,kk,ns,off,n,rfl,h4,_⟩:=Ho h1;have e1:g0 i=ρ k:=by rw[hg0];simp only;rw[(aLX _ h2).2]
      refine⟨by rw[e1];exact .inr ⟨k,_,(aXT _ h2).trans h4,rfl⟩,by rw[e1];exact aAA h jU.1 h1⟩
     ·refine Oc (aGF h1) (Hp h aPW jU.1 (fun i hi=>?_) h1);rw[hU];exact List.mem_map.2 ⟨i,h2 i hi,rfl⟩) (fun i j hi hj heq=>by
     obtain⟨q,hq,rfl,h1⟩:=qI i hi;obtain⟨q',aEN,rfl,h2⟩:=qI j hj;rw[hg0]at heq;simp only[h1,h2]at heq;obtain⟨e1,k1,n1,o1,m1,Bm,_⟩:=Ka q hq;obtain⟨e2,k2,n2,o2,m2,bBS,_⟩:=Ka q' aEN;have h3:=h.inj _ _ _ _ Bm bBS heq;obtain⟨a1,Rm⟩:=bZL hq;obtain⟨a2,aYX⟩:=bZL aEN;have:=Hx aYB Rm aYX h3;subst this;rw[Rm]at aYX;cases aYX;rfl)
    have hI:(execOp a.eval o).run P w=.ok (.enter f (args.map a.eval).toArray) w:=by
     unfold execOp;rw[ho];simp only[resolve,hf,Deferred.ofValue,Sem.run_bind,Sem.run_pure,Result.andThen_ok,invoke];rw[<-aMG];congr 1;simp
    intro next Q hn;unfold Oper.wp;rw[hI];simp only[Oper.upon_enter];refine aMF.mono ?_;rintro e w' ⟨Ae,rfl,aZB,⟨g,bKU,aLW,bEO⟩,aEV⟩;simp only;obtain⟨Sv,aLO⟩:∃Sv,Sv=Hv.map (reBack us):=⟨_,rfl⟩;rw[<-aLO]at he;have aVD:Sv.length=Hv.length:=by rw[aLO];simp
    have bME:∀{i:Nat} {e:TypeId} {k:IntKind} {ns:List Int},Sv[i]?=some (.own e k ns)->Hv[i]?=some (.own e k ns):=by
     intro i e k ns hi;rw[aLO,bYR]at hi;obtain⟨d,h1,h2⟩:=Option.map_eq_some_iff.1 hi;rw[h1,aAN h2]
    obtain⟨Ie,aYI⟩:∃Ie,Ie=applyUps ub hp:=⟨_,rfl⟩;obtain⟨yS,Ub⟩:∃yS,yS=applyUps (takeAll keep id Sv).2 Ie:=⟨_,rfl⟩;obtain⟨ρ2,Gk⟩:∃ρ2:Nat->Nat,ρ2=fun j=>if id<=j/\j<id+8 then g (j-id)else ρ j:=⟨_,rfl⟩
    have Cy:∀i,al i->¬(id<=i/\i<id+8):=fun i hi hr=>yB (i-id) (by omega) (by rw[show id+(i-id)=i by omega];exact hi)
    have wH:∀j,yS j=match (if id<=j then Sv[j-id]? else none)with
      |some (.own e k ns)=>if keep=true then some ⟨e,.ints k ns⟩else Ie j
      |_=>Ie j:=fun j=>by rw[Ub];exact takeAll_ups keep Sv id _ j
    have bJP:nodup (ub.map (·.1))=true:=by rw[bDJ];exact aYB
    have bEL:∀q∈us,∃(e:TypeId) (k:IntKind) (ns:List Int) (j:Nat),Ie q.2=some ⟨e,.ints k ns⟩/\us[j]?=some q/\∃(o n:Nat),js[j]?=some (D.io e k ns o n):=by
     intro q hq;obtain⟨j,hj⟩:=bZL hq;obtain⟨e,k,ns,o,n,h1,h2⟩:=bJQ j q hj;exact⟨e,k,ns,j,by rw[aYI];exact Js bJP h2,hj,o,n,h1⟩
    have aLQ:∀j,j ∉ us.map (·.2)->Ie j=hp j:=fun j hj=>by rw[aYI];exact tO (by rw[bDJ];exact hj)
    have bLQ:∀j b,Ie j=some b->al j:=by
     intro j b hb
     by_cases hj:j∈us.map (·.2)
     ·obtain⟨q,hq,rfl⟩:=List.mem_map.1 hj;obtain⟨e,kk,ns,off,n,h1,_⟩:=Ka q hq;exact h.alh _ _ h1
     ·rw[aLQ j hj]at hb;exact h.alh _ _ hb
    have aLR:∀j b,Ie j=some b->ρ j<w.heap.size:=by
     intro j b hb
     by_cases hj:j∈us.map (·.2)
     ·obtain⟨q,hq,rfl⟩:=List.mem_map.1 hj;obtain⟨e,kk,ns,off,n,h1,_⟩:=Ka q hq;exact h.jY h1
     ·rw[aLQ j hj]at hb;exact h.jY hb
    have Xn:∀j,¬al j->Ie j=none:=by
     intro j hj;cases hq:Ie j with
     |none=>rfl
     |some b=>exact absurd (bLQ j b hq) hj
    have uK:∀j b,yS j=some b->¬al j->∃e k ns,id<=j/\Sv[j-id]?=some (.own e k ns)/\keep=true/\b=⟨e,.ints k ns⟩:=by
     intro j b hj tW;rw[wH]at hj;split at hj
     ·rename_i e k ns hq;split at hj
      ·rename_i hk;cases hj;split at hq
       ·exact⟨e,k,ns,‹_›,hq,hk,rfl⟩
       ·cases hq
      ·rw[Xn j tW]at hj;cases hj
     ·rw[Xn j tW]at hj;cases hj
    have aLN:∀i,al i->yS i=Ie i:=by
     intro i hi;rw[wH];split
     ·rename_i e k ns hq;split at hq
      ·exact absurd ⟨‹_›,by have:=bB hq;omega⟩ (Cy i hi)
      ·cases hq
     ·rfl
    have Ue:=h.aNX (ρ':=ρ2) (hp':=yS) (al':=pY al id) aZB (fun b hb=>by
      obtain⟨q,hq,rfl⟩:=aVM b hb;obtain⟨e,kk,ns,off,n,h1,_⟩:=Ka q hq;exact⟨q.2,_,h1,rfl⟩) (fun _ h=>.inl h)
     (fun i hi=>by rw[Gk];simp only;rw[if_neg (Cy i hi)])
     (fun i b' hi hb=>by
      rw[aLN i hi]at hb
      by_cases hj:i∈us.map (·.2)
      ·obtain⟨q,hq,rfl⟩:=List.mem_map.1 hj;obtain⟨e,kk,ns,off,n,h1,h2⟩:=Ka q hq;obtain⟨e',k',oR,j,h3,h4,o,m,h5⟩:=bEL q hq;rw[h3]at hb;cases hb;have bHA:(p :: ps)[j]?=some q.1:=by rw[<-Ty];simp[h4]
       obtain⟨e1,k1,n1,o1,m1,e2,k2,n2,h6,h7,h8⟩:=aMD.io j q.1 bHA;rw[h2]at h6;cases h6;rw[h5]at h7;cases h7;have bEW:Vr w' (g0 q.1) (D.io e' k' oR 0 0):=aEV j q.1 _ bHA h5;have e0:g0 q.1=ρ q.2:=by rw[hg0];simp only;rw[(aLX q hq).2]
       rw[e0]at bEW;refine .inr ⟨⟨q.1,by rw[<-Ty];exact List.mem_map.2 ⟨q,hq,rfl⟩,e0⟩,_,h1,⟨fun k ns he=>?_,fun cs he=>by cases he⟩,fun Y=>bEW⟩;cases he;exact⟨_,_,rfl,h8.symm⟩
      ·rw[aLQ i hj]at hb;refine .inl ⟨fun hm=>?_,hb⟩;obtain⟨q,hq,h1⟩:=aVM _ hm;obtain⟨e,kk,ns,off,n,h2,_⟩:=Ka q hq;have:=h.inj _ _ _ _ h2 hb h1;subst this;exact hj (List.mem_map.2 ⟨q,hq,rfl⟩))
     (fun j b hj tW=>by
      obtain⟨e,k,ns,h1,h2,h3,rfl⟩:=uK j b hj tW;have jM:=bB h2;obtain⟨v,hv⟩:=bV (l:=Ae) (i:=j-id) (by omega);obtain⟨arr,cap,_,Ai,hw,h4,aZC,h5,h6⟩:=bEO (j-id) _ v (bME h2) hv;have e1:ρ2 j=g (j-id):=by rw[Gk];simp only;rw[if_pos ⟨h1,by omega⟩]
      exact⟨.inr ⟨h1,by omega⟩,by rw[e1];exact Ai,fun Y=>⟨arr,by rw[e1];exact hw,bZJ h4 aZC,h6⟩⟩)
     (fun i j b c hi hj bLS bLR e=>by
      obtain⟨e1,k1,Zn,h1,h2,h3,_⟩:=uK i b hi bLS;obtain⟨e2,k2,bSG,h4,h5,h6,_⟩:=uK j c hj bLR;have l1:=bB h2;have l2:=bB h5;rw[Gk]at e;simp only at e;rw[if_pos ⟨h1,by omega⟩,if_pos ⟨h4,by omega⟩]at e;have:=aLW _ _ _ _ (bME h2) (bME h5) rfl rfl e;omega)
    obtain⟨aAW,bKL⟩:=Ue;have bJW:∀{i:Nat} {d:D},Hv[i]?=some d->shares d=false:=by
     intro i d hi;cases hs:shares d with
     |false=>rfl
     |true =>
      have:Hv.any shares=true:=List.any_eq_true.2 ⟨d,bYW hi,hs⟩;rw[this]at bDW;cases bDW
    have aAX:∀(i:Nat) (d:D) (v:Value),Hv[i]?=some d->Ae[i]?=some v->Hc ρ2 yS (XO X ρ2 yS) w' (takeIn keep (id+i) (reBack us d)).1 v/\∀j∈refsV (takeIn keep (id+i) (reBack us d)).1,pY al id j:=by
     intro i d v hi hv;have bBK:Sv[i]?=some (reBack us d):=by rw[aLO,bYR,hi];rfl
     have hg:=bEO i d v hi hv;have bUV:=bB hi;have bBF:=bJW hi;cases d with
     |own e k ns =>
      obtain⟨arr,cap,rfl,Ai,hw,h4,aZC,h5,h6⟩:=hg;have bKD:¬X (g i):=fun hx=>by have:=Old.Wy (h.x0 _ hx);have:=h.below.size;omega
      cases keep with
      |true =>
       have e1:ρ2 (id+i)=g i:=by rw[Gk];simp only;rw[if_pos ⟨by omega,by omega⟩];congr 1;omega
       refine⟨⟨cap,by rw[e1],h4,fun blk k1 Zn hb hk=>?_,fun blk cs hb hk=>?_⟩,fun j hj=>?_⟩
       rotate_left
       ·rw[wH,aR,show id+i-id=i by omega,bBK]at hb;simp only[reBack,if_true]at hb;cases hb;cases hk
       rotate_left
       ·rw[wH,aR,show id+i-id=i by omega,bBK]at hb;simp only[reBack,if_true]at hb;cases hb;cases hk;exact⟨rfl,h5,by rw[e1];unfold nB;rw[hw];exact aZC⟩
       ·simp only[reBack,takeIn,cond_true,refsV,refsL,bZE]at hj;subst hj;exact .inr ⟨by omega,by omega⟩
      |false =>
       refine⟨⟨_,cap,rfl,h4,fun j n hj=>⟨g i,0,rfl,(Array.getElem?_eq_some_iff.1 hw).1,?_,?_⟩⟩,fun j hj=>by simp[reBack,takeIn,refsV,refsL]at hj⟩
       ·rintro (hx |⟨j',bl,h7,h8⟩)
        ·exact bKD hx
        ·by_cases Qc:al j'
         ·rw[aLN j' Qc]at h7;have:=aLR _ _ h7;have e2:ρ2 j'=ρ j':=by rw[Gk];simp only;rw[if_neg (Cy j' Qc)]
          omega
         ·obtain⟨_,_,_,_,_,hk,_⟩:=uK j' bl h7 Qc;cases hk
       ·rw[bYP,cell_of_row w' (g i) j arr e (0,0) hw];exact h6 j n hj
     |s x=>exact⟨oZ.any (d:=.s x) bBF rfl hg,fun j hj=>by simp[reBack,takeIn,refsV,refsL]at hj⟩
     |rows sz n f=>cases bBF
     |agg cs=>exact⟨oZ.any (d:=.agg cs) bBF rfl hg,fun j hj=>by simp[reBack,takeIn,refsV]at hj⟩
     |io=>cases bBF
     |back p0 off n =>
      obtain⟨j,e,k,ns,h1,h2,h3⟩:=hg;obtain⟨q,hq,rfl,h4⟩:=qI p0 (bYW h1);have bKR:idAt us q.1=q.2:=(aEK (fun q hq=>(aLX q hq).2) hq).trans h4;obtain⟨e0,kk,ns0,off0,n0,hb0,_⟩:=Ka q hq;have aYW:=h.alh _ _ hb0;have e1:ρ2 q.2=g0 q.1:=by rw[Gk,hg0];simp only;rw[if_neg (Cy _ aYW),h4]
      obtain⟨o',cap,h5,h6,h7,h8,h9,bPZ,bWS⟩:=h3;simp only[reBack,bKR,takeIn];refine⟨⟨o',cap,by rw[e1];exact h5,h6,h7,h8,fun blk k1 Zn hb hk=>?_⟩,fun j hj=>?_⟩
      ·rw[aLN _ aYW]at hb;obtain⟨e',k',oR,j',bWR,bWQ,o,m,bWP⟩:=bEL q hq;rw[bWR]at hb;cases hb;cases hk;have bHA:(p :: ps)[j']?=some q.1:=by rw[<-Ty];simp[bWQ]
       have bUP:j=j':=by
        have f1:((us.map (·.1)).map gid)[j]?=some q.2:=by rw[Ty,bYR,h1];simp[h4]
        have f2:((us.map (·.1)).map gid)[j']?=some q.2:=by rw[Ty,bYR,bHA];simp[h4]
        have f3:(us.map (·.1)).map gid=us.map (·.2):=by
         rw[List.map_map];exact cAD fun q hq=>(aLX q hq).2
        have bDY:nodup ((us.map (·.2)).map fun x=>x)=true:=by rw[List.map_id'];exact aYB
        rw[f3]at f1 f2;exact Hx bDY f1 f2 rfl
       subst bUP;rw[bWP]at h2;cases h2;exact⟨h9,bPZ,by rw[e1];exact bWS⟩
      ·simp only[refsV,refsL,bZE]at hj;subst hj;exact .inl aYW
    have Jn:(takeAll keep id Sv).1.length=Ae.length:=by rw[Au,aVD];exact bKU
    have hval:∀(i:Nat) (y:V) (v:Value),(takeAll keep id Sv).1[i]?=some y->Ae[i]?=some v->Hc ρ2 yS (XO X ρ2 yS) w' y v/\∀j∈refsV y,pY al id j:=by
     intro i y v hy hv;obtain⟨d,Bl⟩:=bV (l:=Hv) (i:=i) (by have:=bB hv;omega);rw[Av keep Sv id i (reBack us d) (by rw[aLO,bYR,Bl];rfl)]at hy;cases hy;exact aAX i d v Bl hv
    have wV:∀(y:A),zY ρ2 yS (XO X ρ2 yS) w' y (resV Ae)->(∀j∈refs y,pY al id j)->some (y,ub ++ (takeAll keep id Sv).2)=some (x,u)->next (a.put o.dst (resV Ae)) w':=by
     intro y hy bJF heq;obtain⟨e1,e2⟩:=Prod.mk.inj (Option.some.inj heq);refine hn ρ2 (resV Ae) w' ?_;rw[<-e1,<-e2,mM,<-aYI,<-Ub];exact aAW.pure hd hy bJF
    match bJM:Ae,Jn,hval,wV with
    | [v],Jn,hval,wV =>
     match ht:(takeAll keep id Sv).1,Jn with
     | [y],_ =>
      rw[ht]at he hval;obtain⟨h1,h2⟩:=hval 0 y v rfl rfl;exact wV (.v y) h1 h2 he
    | [],Jn,hval,wV =>
     match ht:(takeAll keep id Sv).1,Jn with
     | [],_ =>
      rw[ht]at he;exact wV (.Pm []) ⟨#[],rfl,rfl,fun i y v hy=>by simp at hy⟩ (by simp[refs]) he
    |v1 :: v2 :: vr,Jn,hval,wV =>
     match ht:(takeAll keep id Sv).1,Jn with
     |y1 :: y2 :: yr,Jn =>
      rw[ht]at he hval;refine wV (.Pm (y1 :: y2 :: yr)) ⟨(v1 :: v2 :: vr).toArray,rfl,by simpa using Jn,fun i y v hy hv=>(hval i y v hy (by simpa using hv)).1⟩ ?_ he;intro j hj;obtain⟨y,hy,hj⟩:=List.mem_flatMap.1 hj;obtain⟨i,hi⟩:=bZL hy;obtain⟨v,hv⟩:=bV (l:=v1 :: v2 :: vr) (i:=i) (by have:=bB hi;omega);exact(hval i y v hi hv).2 j hj
theorem aND(h:jX E X w0 ρ al fr hp a w)(hd:kD E.nt o=true)(hC:mD P E)(yB:∀j,j<8->¬al (id+j)){fo:Operand}{args:Array Operand}{yQ:Array TypeId}(ho:o.op=.call ⟨.value fo,args,yQ⟩)(he:tM E id o (evA E fr) hp=some (x,u)):Vd P E X w0 al fr hp a w o id x u:=by
 obtain⟨args⟩:=args;unfold tM effK at he;rw[ho]at he;simp only at he;split at he
 case h_2=>cases he
 rename_i f bHF;have hf:a.eval fo=.func (.func f) #[] #[]:=by
  have hz:=(h.ev fo).1;unfold funOf at bHF;split at bHF
  ·rename_i f' jU;cases bHF;rw[jU]at hz;exact hz.1
  ·cases bHF
 split at he
 ·rename_i gx vs aYU;obtain⟨bUZ,he⟩:=Nl he;exact(aST h hd hC hf ho aYU bUZ he).step
 split at he
 case h_2=>exact eff_callIO h hd hC yB hf ho ‹_› he
 rename_i bKP;simp only[callK,Fv]at he;generalize keepOf E o=keep at he;split at he
 ·cases he
 ·rename_i ds bBO;split at he
  ·cases he
  ·rename_i gd rs bDO;obtain⟨bBL,he⟩:=Nl he;cases Xq:bYQ rs.length 8 with
   |false=>rw[Xq]at he;cases he
   |true =>
   rw[Xq]at he;simp only[cond_true]at he;have Xq:rs.length<=8:=cAL Xq;obtain⟨aMD,aMG⟩:=hC.c f ds gd rs bKP bDO bBL;obtain⟨U,hU⟩:∃U,U=aBZ (args.map (evA E fr)):=⟨_,rfl⟩;have aPW:Cons U:=by rw[hU];exact Yx _
   have hY:∀b,XO X ρ (applyUps U hp) b->b<w.heap.size:=by
    rintro b (hb |⟨i,bl,h1,h2⟩)
    ·have:=Old.Wy (h.x0 b hb);have:=h.below.size;omega
    ·have:=h.jY (iO aPW h1);omega
   have hG:GlobOk E.glob (XO X ρ (applyUps U hp)) w:=by
    intro g k ns hg;obtain⟨h1,h2,h3⟩:=h.Ug g k ns hg;exact⟨h1,fun ho=>h2 (ho.imp (fun h=>h) (aQB.of_cons aPW)),h3.later (jB.cons aPW)⟩
   have bBQ:ds.length=args.length:=by have:=Bf bBO;simpa using this
   have aMF:=aMD (XO X ρ (applyUps U hp)) w (args.map a.eval) hY hG (by simp[bBQ]) (fun i d v hi hv=>by
    obtain⟨y,aLK,aXO⟩:=Xg bBO i d hi;simp only[bYR,bZR]at aLK hv;obtain⟨z,hz,rfl⟩:=aLK;obtain⟨z',aXN,rfl⟩:=hv;rw[hz]at aXN;cases aXN;have jU:=h.ev z;refine Hp h aPW jU.1 (fun i hi=>?_) aXO;rw[hU];exact aAQ (List.mem_map.2 ⟨z,bYW hz,rfl⟩) hi)
   have hI:(execOp a.eval o).run P w=.ok (.enter f (args.map a.eval).toArray) w:=by
    unfold execOp;rw[ho];simp only[resolve,hf,Deferred.ofValue,Sem.run_bind,Sem.run_pure,Result.andThen_ok,invoke];rw[<-aMG];congr 1;simp
   intro next Q hn;unfold Oper.wp;rw[hI];simp only[Oper.upon_enter];refine aMF.mono ?_;rintro e w' ⟨Ae,rfl,aZB,g,bKU,aLW,bEO⟩;simp only;obtain⟨U',bWE,bWA⟩:∃U',Cons U'/\(bif rs.any shares then(List.flatMap refs (args.map (evA E fr))).map fun i=>((i,none):Nat×Option lO)else [])=U'/\(∀i,i∈U'.map (·.1)->i∈U.map (·.1)):=by
    cases bJX:rs.any shares with
    |true=>exact⟨U,aPW,by rw[hU];rfl,fun _ h=>h⟩
    |false=>exact⟨[],(fun p hp=>by cases hp),rfl,fun i hi=>by cases hi⟩
   obtain⟨aYY,hUsub⟩:=bWA;rw[aYY]at he;have h0:=h.cons bWE;obtain⟨yS,Ub⟩:∃yS,yS=applyUps (takeAll keep id rs).2 (applyUps U' hp):=⟨_,rfl⟩;obtain⟨ρ2,Gk⟩:∃ρ2:Nat->Nat,ρ2=fun j=>if id<=j/\j<id+8 then g (j-id)else ρ j:=⟨_,rfl⟩
   have Cy:∀i,al i->¬(id<=i/\i<id+8):=fun i hi hr=>yB (i-id) (by omega) (by rw[show id+(i-id)=i by omega];exact hi)
   have wH:∀j,yS j=match (if id<=j then rs[j-id]? else none)with
     |some (.own e k ns)=>if keep=true then some ⟨e,.ints k ns⟩else applyUps U' hp j
     |_=>applyUps U' hp j:=fun j=>by rw[Ub];exact takeAll_ups keep rs id _ j
   have Xn:∀j,¬al j->applyUps U' hp j=none:=by
    intro j hj;cases hq:applyUps U' hp j with
    |none=>rfl
    |some b=>exact absurd (h0.alh j b hq) hj
   have uK:∀j b,yS j=some b->¬al j->∃e k ns,id<=j/\rs[j-id]?=some (.own e k ns)/\keep=true/\b=⟨e,.ints k ns⟩:=by
    intro j b hj tW;rw[wH]at hj;split at hj
    ·rename_i e k ns hq;split at hj
     ·rename_i hk;cases hj;split at hq
      ·exact⟨e,k,ns,‹_›,hq,hk,rfl⟩
      ·cases hq
     ·rw[Xn j tW]at hj;cases hj
    ·rw[Xn j tW]at hj;cases hj
   have Ue:=h0.called (ρ':=ρ2) (hp':=yS) (al':=pY al id) aZB (fun _ h=>.inl h)
    (fun i hi=>by
     refine⟨by rw[Gk];simp only;rw[if_neg (Cy i hi)],?_⟩;rw[wH];split
     ·rename_i e k ns hq;split at hq
      ·exact absurd ⟨‹_›,by have:=bB hq;omega⟩ (Cy i hi)
      ·cases hq
     ·rfl)
    (fun j b hj tW=>by
     obtain⟨e,k,ns,h1,h2,h3,rfl⟩:=uK j b hj tW;have jM:=bB h2;obtain⟨v,hv⟩:=bV (l:=Ae) (i:=j-id) (by omega);obtain⟨arr,cap,_,Ai,hw,h4,aZC,h5,h6⟩:=bEO (j-id) _ v h2 hv;have e1:ρ2 j=g (j-id):=by rw[Gk];simp only;rw[if_pos ⟨h1,by omega⟩]
     exact⟨.inr ⟨h1,by omega⟩,by rw[e1];exact Ai,fun Y=>⟨arr,by rw[e1];exact hw,bZJ h4 aZC,h6⟩⟩)
    (fun i j b c hi hj bLS bLR e=>by
     obtain⟨e1,k1,Zn,h1,h2,h3,_⟩:=uK i b hi bLS;obtain⟨e2,k2,bSG,h4,h5,h6,_⟩:=uK j c hj bLR;have l1:=bB h2;have l2:=bB h5;rw[Gk]at e;simp only at e;rw[if_pos ⟨h1,by omega⟩,if_pos ⟨h4,by omega⟩]at e;have:=aLW _ _ _ _ h2 h5 rfl rfl e;omega)
   obtain⟨aAW,bKL⟩:=Ue;have aYQ:∀{i:Nat} (d:D) (v:Value),rs[i]?=some d->mF d=false->oZ (fun b=>XO X ρ (applyUps U hp) b\/∃(j:Nat) (d':D),rs[j]?=some d'/\mF d'=true/\g j=b) w' d v->oZ (XO X ρ2 yS) w' d v:=by
    intro i d v hi ho hr;cases bJX:shares d with
    |false=>exact hr.any bJX ho
    |true =>
     have Gl:rs.any shares=true:=List.any_eq_true.2 ⟨d,bYW hi,bJX⟩;have bWC:U'=U:=by
      rw[Gl]at aYY;rw[<-aYY,hU];rfl
     refine hr.later ⟨bYN _,fun b _ hx=>⟨rfl,fun hb=>hx ?_⟩⟩;rcases hb with hb |⟨j,bl,h7,h8⟩
     ·exact .inl (.inl hb)
     ·by_cases Qc:al j
      ·have h9:applyUps U' hp j=some bl:=by
        rw[<-h7,wH];split
        ·rename_i e k ns hq;split at hq
         ·exact absurd ⟨‹_›,by have:=bB hq;omega⟩ (Cy j Qc)
         ·cases hq
        ·rfl
       have e2:ρ2 j=ρ j:=by rw[Gk];simp only;rw[if_neg (Cy j Qc)]
       exact .inl (.inr ⟨j,bl,by rw[<-bWC];exact h9,by rw[<-e2];exact h8⟩)
      ·obtain⟨e,k,ns,h1,h2,h3,rfl⟩:=uK j bl h7 Qc;have jM:=bB h2;refine .inr ⟨j-id,_,h2,rfl,?_⟩;rw[Gk]at h8;simp only at h8;rw[if_pos ⟨h1,by omega⟩]at h8;exact h8
   have aAX:∀(i:Nat) (d:D) (v:Value),rs[i]?=some d->Ae[i]?=some v->Hc ρ2 yS (XO X ρ2 yS) w' (takeIn keep (id+i) d).1 v/\∀j∈refsV (takeIn keep (id+i) d).1,pY al id j:=by
    intro i d v hi hv;have hg:=bEO i d v hi hv;have bUV:=bB hi;cases d with
    |own e k ns =>
     obtain⟨arr,cap,rfl,Ai,hw,h4,aZC,h5,h6⟩:=hg;have bKD:¬X (g i):=fun hx=>by have:=Old.Wy (h.x0 _ hx);have:=h.below.size;omega
     cases keep with
     |true =>
      have e1:ρ2 (id+i)=g i:=by rw[Gk];simp only;rw[if_pos ⟨by omega,by omega⟩];congr 1;omega
      refine⟨⟨cap,by rw[e1],h4,fun blk k1 Zn hb hk=>?_,fun blk cs hb hk=>?_⟩,fun j hj=>?_⟩
      rotate_left
      ·rw[wH,aR,show id+i-id=i by omega,hi]at hb;simp only[if_true]at hb;cases hb;cases hk
      rotate_left
      ·rw[wH,aR,show id+i-id=i by omega,hi]at hb;simp only[if_true]at hb;cases hb;cases hk;exact⟨rfl,h5,by rw[e1];unfold nB;rw[hw];exact aZC⟩
      ·simp only[takeIn,cond_true,refsV,refsL,bZE]at hj;subst hj;exact .inr ⟨by omega,by omega⟩
     |false =>
      refine⟨⟨_,cap,rfl,h4,fun j n hj=>⟨g i,0,rfl,(Array.getElem?_eq_some_iff.1 hw).1,?_,?_⟩⟩,fun j hj=>by simp[takeIn,refsV,refsL]at hj⟩
      ·rintro (hx |⟨j',bl,h7,h8⟩)
       ·exact bKD hx
       ·by_cases Qc:al j'
        ·have:yS j'=applyUps U' hp j':=by
          rw[wH];split
          ·simp
          ·rfl
         rw[this]at h7;have:=h0.jY h7;have e2:ρ2 j'=ρ j':=by rw[Gk];simp only;rw[if_neg (Cy j' Qc)]
         omega
        ·obtain⟨_,_,_,_,_,hk,_⟩:=uK j' bl h7 Qc;cases hk
      ·rw[bYP,cell_of_row w' (g i) j arr e (0,0) hw];exact h6 j n hj
    |s x=>exact⟨aYQ _ v hi rfl hg,fun j hj=>by simp[takeIn,refsV,refsL]at hj⟩
    |rows sz n f=>exact⟨aYQ _ v hi rfl hg,fun j hj=>by simp[takeIn,refsV,refsL]at hj⟩
    |agg cs=>exact⟨aYQ _ v hi rfl hg,fun j hj=>by simp[takeIn,refsV]at hj⟩
    |io=>exact hg.elim
    |back=>exact hg.elim
   have Jn:(takeAll keep id rs).1.length=Ae.length:=by rw[Au];exact bKU
   have hval:∀(i:Nat) (y:V) (v:Value),(takeAll keep id rs).1[i]?=some y->Ae[i]?=some v->Hc ρ2 yS (XO X ρ2 yS) w' y v/\∀j∈refsV y,pY al id j:=by
    intro i y v hy hv;obtain⟨d,Bl⟩:=bV (l:=rs) (i:=i) (by have:=bB hv;omega);rw[Av keep rs id i d Bl]at hy;cases hy;exact aAX i d v Bl hv
   have wV:∀(y:A),zY ρ2 yS (XO X ρ2 yS) w' y (resV Ae)->(∀j∈refs y,pY al id j)->some (y,U' ++ (takeAll keep id rs).2)=some (x,u)->next (a.put o.dst (resV Ae)) w':=by
    intro y hy bJF heq;obtain⟨e1,e2⟩:=Prod.mk.inj (Option.some.inj heq);refine hn ρ2 (resV Ae) w' ?_;rw[<-e1,<-e2,mM,<-Ub];exact aAW.pure hd hy bJF
   match bJM:Ae,Jn,hval,wV with
   | [v],Jn,hval,wV =>
    match ht:(takeAll keep id rs).1,Jn with
    | [y],_ =>
     rw[ht]at he hval;obtain⟨h1,h2⟩:=hval 0 y v rfl rfl;exact wV (.v y) h1 h2 he
   | [],Jn,hval,wV =>
    match ht:(takeAll keep id rs).1,Jn with
    | [],_ =>
     rw[ht]at he;exact wV (.Pm []) ⟨#[],rfl,rfl,fun i y v hy=>by simp at hy⟩ (by simp[refs]) he
   |v1 :: v2 :: vr,Jn,hval,wV =>
    match ht:(takeAll keep id rs).1,Jn with
    |y1 :: y2 :: yr,Jn =>
     rw[ht]at he hval;refine wV (.Pm (y1 :: y2 :: yr)) ⟨(v1 :: v2 :: vr).toArray,rfl,by simpa using Jn,fun i y v hy hv=>(hval i y v hy (by simpa using hv)).1⟩ ?_ he;intro j hj;obtain⟨y,hy,hj⟩:=List.mem_flatMap.1 hj;obtain⟨i,hi⟩:=bZL hy;obtain⟨v,hv⟩:=bV (l:=v1 :: v2 :: vr) (i:=i) (by have:=bB hi;omega);exact(hval i y v hi hv).2 j hj
theorem aAB(h:jX E X w0 ρ al fr hp a w)(hd:kD E.nt o=true)(hT:qE P E.T)(hC:mD P E)(yB:∀j,j<8->¬al (id+j))(he:tM E id o (evA E fr) hp=some (x,u)):Vd P E X w0 al fr hp a w o id x u:=by
 have Dk:=he;unfold tM effK at he;split at he
 ·exact(Yi h hd (.inl ‹_›) Dk).step
 ·exact(Yi h hd (.inr ‹_›) Dk).step
 ·exact(aNA h hd ‹_› Dk).step
 ·exact(aHN h hd hT yB ‹_› Dk).step
 ·exact(aSU h hd yB ‹_› Dk).step
 ·exact(aHL h hd hT ‹_› Dk).step
 ·exact(Np h hd hT yB ‹_› Dk).step
 ·exact(aNB h hd hT ‹_› Dk).step
 ·exact(aHH h hd hT ‹_› Dk).step
 ·exact(aHM h hd hT ‹_› Dk).step
 ·exact(aMZ h hd ‹_› Dk).step
 ·exact(Yk h hd hT ‹_› Dk).step
 ·exact(Qg h hd hT yB ‹_› Dk).step
 ·exact(aHI h hd hT ‹_› Dk).step
 ·exact(Qi h hd hT ‹_› Dk).step
 ·exact(aHK h hd hT ‹_› Dk).step
 ·exact(Qh h hd hT ‹_› Dk).step
 ·exact(aHJ h hd hT ‹_› Dk).step
 ·exact(Yj h hd ‹_› Dk).step
 ·exact aND h hd hC yB ‹_› Dk
 ·rename_i b args yQ ho;have hb:=he;unfold builtinK at hb;split at hb
  ·exact(aSS h hd hT ho Dk).step
  ·exact(No h hd (.inl rfl) ho Dk).step
  ·exact(No h hd (.inr rfl) ho Dk).step
  ·exact(aBM h hd hT yB ho Dk).step
  ·exact(aNC h hd hT ho Dk).step
  ·cases hb
 ·cases he
end
end AI
namespace AI
open Go Go.RowKit
section
variable {hp hp':Nat->Option lO}
theorem Bp{x:A}(h:∀i∈refs x,hp i=hp' i):cellsOf hp x=cellsOf hp' x:=by
 unfold cellsOf;split
 ·rfl
 ·rfl
 ·rw[h _ (by simp[refs,refsV,refsL])]
 ·rw[h _ (by simp[refs,refsV,refsL])]
 ·rfl
theorem aDD{x:A}(h:∀i∈refs x,hp i=hp' i):toD hp x=toD hp' x:=by
 unfold toD;split
 ·rfl
 ·rfl
 ·rfl
 ·rw[h _ (by simp[refs,refsV,refsL])]
 ·rw[h _ (by simp[refs,refsV,refsL])]
 ·rfl
theorem Mx{k:IntKind}{x:A}(h:∀i∈refs x,hp i=hp' i):intsOf hp k x=intsOf hp' k x:=by
 unfold intsOf;split
 ·rfl
 ·rfl
 ·rw[h _ (by simp[refs,refsV,refsL])]
 ·rw[h _ (by simp[refs,refsV,refsL])]
 ·rfl
theorem Gj{R:Type}{t:TI}{sQ:Nat}{x:A}{n:Int}{K:A->Option R}(h:∀i∈refs x,hp i=hp' i):idxK hp t sQ x n K=idxK hp' t sQ x n K:=by
 unfold idxK;split
 ·rfl
 ·rw[h _ (by simp[refs,refsV,refsL])]
 ·rw[h _ (by simp[refs,refsV,refsL])]
 ·rfl
 ·rfl
 ·rfl
 ·rfl
theorem aLI{R:Type}{sh:Bool}{t:TI}{sQ:Nat}{x:A}{n:Int}{K:A->Option R}(h:∀i∈refs x,hp i=hp' i):Tt sh hp t sQ x n K=Tt sh hp' t sQ x n K:=by
 unfold Tt;split
 ·rw[h _ (by simp[refs,refsV,refsL])];simp only[Gj h]
 ·exact Gj h
theorem Tn{xs:List A}(h:∀x∈xs,∀i∈refs x,hp i=hp' i):xs.mapM (toD hp)=xs.mapM (toD hp'):=by
 induction xs with
 |nil=>rfl
 |cons x xs ih=>rw[bZU,bZU,aDD (h x (by simp)),ih (fun y hy=>h y (by simp[hy]))]
theorem Ij{R:Type}{place:Nat->Option (Nat×Nat)}{ev Qe:Operand->A}{parts:List (Nat×Operand)}{cs:List S}{u:sU}{K:List S->sU->Option R}
  (he:∀p∈parts,ev p.2=Qe p.2) (h:∀p∈parts,∀i∈refs (ev p.2),hp i=hp' i):fillK hp place ev parts cs u K=fillK hp' place Qe parts cs u K:=by
 induction parts generalizing cs u with
 |nil=>rfl
 |cons p rest ih =>
  obtain⟨i,y⟩:=p;have e1:ev y=Qe y:=he (i,y) (by simp);have e2:cellsOf hp (ev y)=cellsOf hp' (Qe y):=by rw[Bp (h (i,y) (by simp)),e1]
  simp only[fillK,e2];split
  ·split
   ·exact ih (fun p hp=>he p (by simp[hp])) (fun p hp=>h p (by simp[hp]))
   ·rfl
  ·rfl
end
theorem aHU{R:Type}{E:Env}{id:Nat}{keep:Bool}{f:FuncId}{args:List A}{hp hp':Nat->Option lO}{K:A->sU->Option R}(h:∀x∈args,∀i∈refs x,hp i=hp' i) :
  callK E id keep f args hp K=callK E id keep f args hp' K:=by
 unfold callK;rw[Tn h]
theorem aJI{hp hp':Nat->Option lO}{x:A}(h:∀i∈refs x,hp i=hp' i):toIO hp x=toIO hp' x:=by
 unfold toIO;split
 ·rw[h _ (by simp[refs,refsV,refsL])]
 ·rw[h _ (by simp[refs,refsV,refsL])]
 ·rfl
theorem Ob{hp hp':Nat->Option lO}(ps:List Nat):∀{args:List A} (i:Nat),(∀x∈args,∀i∈refs x,hp i=hp' i)->argsIO ps hp i args=argsIO ps hp' i args
 | [],_,_=>rfl
 |x :: args,i,h=>by
  unfold argsIO;rw[aJI (h x (by simp)),aDD (h x (by simp)),Ob ps (i+1) (fun y hy=>h y (by simp[hy]))]
theorem aBW{R:Type}{E:Env}{ps:List Nat}{id:Nat}{keep:Bool}{f:FuncId}{args:List A}{hp hp':Nat->Option lO}{K:A->sU->Option R}(h:∀x∈args,∀i∈refs x,hp i=hp' i) :
  callIO E ps id keep f args hp K=callIO E ps id keep f args hp' K:=by
 unfold callIO;rw[Ob ps 0 h]
theorem Uz{R:Type}{n0 id:Nat}{e:TypeId}{te:TI}{s x:A}{hp hp':Nat->Option lO}{K:A->sU->Option R}(hs:∀i∈refs s,hp i=hp' i)(hx:∀i∈refs x,hp i=hp' i) :
  rY n0 id e te s x hp K=rY n0 id e te s x hp' K:=by
 unfold rY;split
 ·rw[hx _ (by simp[refs,refsV,refsL])];split
  ·split
   ·split
    ·rw[hs _ (by simp[refs,refsV,refsL])]
    ·rfl
    ·rfl
   ·rfl
  ·rfl
 ·rfl
theorem Us{R:Type}{E:Env}{id:Nat}{b:Builtin}{args:List A}{yQ:List TypeId}{hp hp':Nat->Option lO}{K:A->sU->Option R}(h:∀x∈args,∀i∈refs x,hp i=hp' i) :
  builtinK E id b args yQ hp K=builtinK E id b args yQ hp' K:=by
 unfold builtinK;split
 ·rfl
 ·rfl
 ·rfl
 ·rename_i s x t t';split
  ·split
   ·split
    ·split
     ·rw[Mx (h x (by simp))];split
      ·rename_i i n ms hq;rw[h (.v (.one (.buf i n))) (by simp) i (by simp[refs,refsV,refsL])]
      ·rfl
      ·rfl
     ·rfl
    ·exact Uz (h s (by simp)) (h x (by simp))
    ·rfl
   ·rfl
  ·rfl
 ·rename_i d s t t';split
  ·split
   ·rw[Mx (h s (by simp))];split
    ·rename_i i n ms hq;rw[h (.v (.one (.buf i n))) (by simp) i (by simp[refs,refsV,refsL])]
    ·rename_i i off n ms hq;rw[h (.v (.one (.view i off n))) (by simp) i (by simp[refs,refsV,refsL])]
    ·rfl
   ·rfl
  ·rfl
 ·rfl
theorem xG{α β:Type}{f g:α->β}{o:Option α}(h:∀x,o=some x->f x=g x):o.map f=o.map g:=by
 cases o with
 |none=>rfl
 |some x=>simp[h x rfl]
theorem aNE{R:Type}{E:Env}{id:Nat}{o:Oper}{ev Qe:Operand->A}{hp hp':Nat->Option lO}{K:A->sU->Option R}(he:∀x,x∈o.op.operands.toList->ev x=Qe x)(h:∀x,x∈o.op.operands.toList->∀i∈refs (ev x),hp i=hp' i) :
  effK E id o ev hp K=effK E id o Qe hp' K:=by
 unfold effK;split <;> rename_i ho <;> (try rw[ho]at he h)
 ·rw[he _ (by simp[Op.operands])]
 ·rw[he _ (by simp[Op.operands])]
 ·rw[he _ (by simp[Op.operands]),he _ (by simp[Op.operands]),he _ (by simp[Op.operands])]
 ·rw[Bp (h _ (by simp[Op.operands])),he _ (by simp[Op.operands])]
 ·have e1:∀p∈(‹Array (Nat×Operand)›).toList,p.2∈(‹Array (Nat×Operand)›).toList.map (·.2):=fun p hp=>List.mem_map.2 ⟨p,hp,rfl⟩
  split
  ·exact Ij (fun p hp=>he _ (by simpa [Op.operands] using e1 p hp)) (fun p hp=>h _ (by simpa [Op.operands] using e1 p hp))
  ·exact Ij (fun p hp=>he _ (by simpa [Op.operands] using e1 p hp)) (fun p hp=>h _ (by simpa [Op.operands] using e1 p hp))
  ·rfl
 ·have e1:∀p∈(‹Array (Nat×Operand)›).toList,p.2∈(‹Array (Nat×Operand)›).toList.map (·.2):=fun p hp=>List.mem_map.2 ⟨p,hp,rfl⟩
  split
  ·split
   ·split
    ·exact Ij (fun p hp=>he _ (by simpa [Op.operands] using e1 p hp)) (fun p hp=>h _ (by simpa [Op.operands] using e1 p hp))
    ·rfl
   ·rfl
  ·rfl
 ·rename_i t y;have e1:ev y=Qe y:=he _ (by simp[Op.operands]);have e2:=h y (by simp[Op.operands]);split
  ·rw[<-e1];split
   ·rename_i i off jU;rw[e2 i (by rw[jU];simp[refs,refsV,refsL])]
   ·rename_i i j jU;rw[e2 i (by rw[jU];simp[refs,refsV,refsL])]
   ·rfl
   ·rfl
  ·rfl
 ·rename_i t y z;have e1:ev y=Qe y:=he _ (by simp[Op.operands]);have e3:ev z=Qe z:=he _ (by simp[Op.operands]);have e2:=h y (by simp[Op.operands]);have e4:cellsOf hp (ev z)=cellsOf hp' (Qe z):=by rw[Bp (h z (by simp[Op.operands])),e3]
  split
  ·rw[<-e1,e4,<-e3];split
   ·rename_i i off jU;rw[e2 i (by rw[jU];simp[refs,refsV,refsL])]
   ·rename_i i j jU;rw[e2 i (by rw[jU];simp[refs,refsV,refsL])]
   ·rfl
  ·rfl
 ·rw[he _ (by simp[Op.operands]),he _ (by simp[Op.operands])]
 ·rw[he _ (by simp[Op.operands])]
 ·rw[he _ (by simp[Op.operands])]
 ·rw[he _ (by simp[Op.operands]),he _ (by simp[Op.operands])]
 ·rename_i t y lo hi mx;have e1:ev y=Qe y:=he _ (by simp[Op.operands]);have e2:lo.map ev=lo.map Qe:=xG fun x hx=>he x (by subst hx;simp[Op.operands])
  have e3:hi.map ev=hi.map Qe:=xG fun x hx=>he x (by subst hx;simp[Op.operands])
  have e4:mx.map ev=mx.map Qe:=xG fun x hx=>he x (by subst hx;simp[Op.operands])
  rw[e1,e2,e3,e4]
 ·rw[he _ (by simp[Op.operands])]
 ·rw[he _ (by simp[Op.operands])]
 ·rename_i t y z;have e1:ev y=Qe y:=he _ (by simp[Op.operands]);have e3:ev z=Qe z:=he _ (by simp[Op.operands]);have e2:=h y (by simp[Op.operands]);rw[<-e1,e3];split
  ·split
   ·split
    ·split
     ·rfl
     ·rfl
     ·exact aLI e2
    ·rfl
   ·split
    ·rename_i jU;exact Gj (by rw[jU]at e2;exact e2)
    ·exact Gj (by intro i hi;cases hi)
    ·rfl
   ·rfl
  ·rfl
 ·rw[he _ (by simp[Op.operands]),he _ (by simp[Op.operands])]
 ·rw[he _ (by simp[Op.operands])]
 ·rename_i f args yQ;have e1:args.toList.map ev=args.toList.map Qe:=cAD fun x hx=>he x (by simp[Op.operands,Call.operands];exact .inr (by simpa using hx))
  have e0:ev f=Qe f:=he f (by simp[Op.operands,Call.operands]);rw[e0,e1];split
  ·split
   ·rfl
   ·have hx:∀x∈args.toList.map Qe,∀i∈refs x,hp i=hp' i:=by
     intro x hx i hi;rw[<-e1]at hx;obtain⟨y,hy,rfl⟩:=List.mem_map.1 hx;exact h y (by simp[Op.operands,Call.operands];exact .inr (by simpa using hy)) i hi
    split
    ·exact aHU hx
    ·exact aBW hx
  ·rfl
 ·rename_i b args yQ;have e1:args.toList.map ev=args.toList.map Qe:=cAD fun x hx=>he x (by simpa [Op.operands,Call.operands] using hx)
  rw[e1];refine Us ?_;intro x hx i hi;rw[<-e1]at hx;obtain⟨y,hy,rfl⟩:=List.mem_map.1 hx;exact h y (by simpa [Op.operands,Call.operands] using hy) i hi
 ·rfl
end AI
namespace AI
open Go Go.RowKit
inductive Gd where
 |run
 |skip
 |bad
def gd(ops:Array Oper)(o:Oper)(fr:Nat->A):Gd :=
 match o.guard with
 |none=>.run
 |some (j,want)=>match (ops[j]?).bind (·.dst)with
  |some d=>match fr d with
   | .v (.one (.s (.sc (.bool b))))=>if b=want then .run else .skip
   | .Pm []=>.skip
   |_=>.bad
  |none=>.bad
structure Dt where
 i:Nat
 o:Oper
 x:A
 u:sU
 t:List Nat
def Ak(E:Env)(ops:Array Oper)(base:Nat)(d:Dt)(st gM:St):Prop :=
 ops[d.i]?=some d.o/\kD E.nt d.o=true /\
  ((gd ops d.o st.fr=.run/\tM E (base+8*d.i) d.o (evA E st.fr) st.hp=some (d.x,d.u)/\d.t=uW d.o (evA E st.fr) d.u)\/(gd ops d.o st.fr=.skip/\d.x=.Pm []/\d.u=[]/\d.t=[])) /\
  gM=after d.o st d.x d.u
def zW(E:Env)(ops:Array Oper)(base:Nat):List Dt->St->St->Prop
 | [],st,gM=>st=gM
 |d :: l,st,gM=>∃st1,Ak E ops base d st st1/\zW E ops base l st1 gM
def Dt.told(d:Dt):Rec:=⟨d.i,d.o,d.t,d.u.map (·.1)⟩
def Fa(ops:Array Oper)(d d':Dt):Prop:=indep ops d.told d'.i d'.o d'.t (d'.u.map (·.1))=true
theorem lD{R:Type}(len:Nat)(lo hi mx:Option A)(K:Nat->Nat->Option R):sliceK len lo hi mx K=(sliceK len lo hi mx fun l h=>some (l,h)).bind fun p=>K p.1 p.2:=by
 unfold sliceK;split
 ·split <;> rfl
 ·split
  ·split <;> rfl
  ·rfl
 ·rfl
theorem Jg{R S:Type}(n:Int)(f:Nat->S)(K:S->Option R):∀m j:Nat,splitN n m j (fun i=>K (f i))=(splitN n m j (fun i=>some (f i))).bind K
 |0,_=>rfl
 |m+1,j=>by
  unfold splitN;cases decide (n=(j:Int))with
  |true=>rfl
  |false=>exact Jg n f K m (j+1)
theorem tE{R:Type}(hp:Nat->Option lO)(t:TI)(sQ:Nat)(x:A)(n:Int)(K:A->Option R):idxK hp t sQ x n K=(idxK hp t sQ x n some).bind K:=by
 unfold idxK;split
 ·split
  ·split <;> rfl
  ·rfl
 ·split
  ·split
   ·split <;> rfl
   ·rfl
  ·split <;> rfl
  ·rfl
 ·split
  ·split
   ·split <;> rfl
   ·rfl
  ·rfl
 ·split
  ·split <;> rfl
  ·rfl
 ·split
  ·rename_i id off x len esz' g hk;cases bYQ len 8 with
   |true=>exact Jg n (fun j=>A.v (V.one (L.ptr id (off+j*sQ)))) K len 0
   |false =>
    simp only[cond_false];split <;> rfl
  ·rfl
 ·split
  ·split
   ·split <;> rfl
   ·rfl
  ·rfl
 ·rfl
theorem Fu{R S:Type}(n:Int){F:Nat->Option R}{G:Nat->Option S}(K:S->Option R)(h:∀j,F j=(G j).bind K):∀m j:Nat,splitN n m j F=(splitN n m j G).bind K
 |0,_=>rfl
 |m+1,j=>by
  unfold splitN;cases decide (n=(j:Int))with
  |true=>exact h j
  |false=>exact Fu n K h m (j+1)
theorem Rj{R:Type}(sh:Bool)(hp:Nat->Option lO)(t:TI)(sQ:Nat)(x:A)(n:Int)(K:A->Option R):Tt sh hp t sQ x n K=(Tt sh hp t sQ x n some).bind K:=by
 unfold Tt;split
 ·split
  ·exact Fu n K (fun j=>tE ..) _ 0
  ·exact tE ..
 ·exact tE ..
theorem aBV{R:Type}(E:Env)(id:Nat)(keep:Bool)(f:FuncId)(args:List A)(hp:Nat->Option lO)(K:A->sU->Option R):callK E id keep f args hp K=(callK E id keep f args hp fun a u=>some (a,u)).bind fun p=>K p.1 p.2:=by
 unfold callK;split
 ·rfl
 ·split
  ·rfl
  ·rename_i g rs _;unfold aN;simp only[Fv];split
   ·cases bYQ rs.length 8 with
    |false=>rfl
    |true =>
     simp only[cond_true];split <;> rfl
   ·rfl
theorem Yu{R:Type}(E:Env)(ps:List Nat)(id:Nat)(keep:Bool)(f:FuncId)(args:List A)(hp:Nat->Option lO)(K:A->sU->Option R):callIO E ps id keep f args hp K=(callIO E ps id keep f args hp fun a u=>some (a,u)).bind fun p=>K p.1 p.2:=by
 unfold callIO;split
 ·rfl
 ·generalize (leqN _ _&&_)=bb;cases bb with
  |false=>rfl
  |true =>
   simp only[cond_true];split
   ·rfl
   ·unfold aN;simp only[Fv];split
    ·generalize (bYQ _ _&&_&&_)=b2;cases b2 with
     |false=>rfl
     |true =>
      simp only[cond_true];split
      ·rfl
      ·split <;> rfl
    ·rfl
theorem Qs{R:Type}(n0 id:Nat)(e:TypeId)(te:TI)(s x:A)(hp:Nat->Option lO)(K:A->sU->Option R):rY n0 id e te s x hp K=(rY n0 id e te s x hp fun a u=>some (a,u)).bind fun p=>K p.1 p.2:=by
 unfold rY;split
 ·split
  ·split
   ·split
    ·split
     ·split <;> rfl
     ·rfl
    ·split <;> rfl
    ·rfl
   ·rfl
  ·rfl
 ·rfl
theorem Qo{R:Type}(E:Env)(id:Nat)(b:Builtin)(args:List A)(yQ:List TypeId)(hp:Nat->Option lO)(K:A->sU->Option R):builtinK E id b args yQ hp K=(builtinK E id b args yQ hp fun a u=>some (a,u)).bind fun p=>K p.1 p.2:=by
 unfold builtinK;split
 ·split <;> rfl
 ·split <;> rfl
 ·split <;> rfl
 ·split
  ·split
   ·split
    ·split
     ·split
      ·split
       ·generalize bYY _ _=bb;cases bb with
        |true=>rfl
        |false =>
         simp only[cond_false];split
         ·split <;> rfl
         ·rfl
       ·rfl
      ·split <;> rfl
      ·rfl
     ·rfl
    ·exact Qs ..
    ·rfl
   ·rfl
  ·rfl
 ·split
  ·split
   ·split
    ·split
     ·split <;> rfl
     ·rfl
    ·split
     ·split <;> rfl
     ·rfl
    ·rfl
   ·rfl
  ·rfl
 ·rfl
theorem qT {R : Type} (E : Env) (id : Nat) (o : Oper) (ev : Operand → A) (hp : Nat → Option lO) (K : A → sU → Option R) : effK E id o ev hp K = (tM E id o ev hp).bind fun p => K p.1 p.2 := by
  unfold tM effK
  split
  · rfl
  · rfl
  · split
    · split
      · rfl
      · rename_i t _ _ _ _; cases t <;> rfl
    · rfl
  · split <;> rfl
  · split
    · split <;> rfl
    · rfl
  · split
    · rw [oC]; conv => rhs; rw [oC]
      rw [bYV]; rfl
    · rw [oC]; conv => rhs; rw [oC]
      rw [bYV]; rfl
    · rfl
  · split
    · split
      · split
        · rw [oC]; conv => rhs; rw [oC]
          rw [bYV]
          congr 1
          funext r
          split
          · split <;> rfl
          · rfl
        · rfl
      · rfl
    · rfl
  · split
    · split
      · split
        · split <;> rfl
        · rfl
      · split <;> rfl
      · split <;> rfl
      · rfl
    · rfl
  · split
    · split
      · split
        · split <;> rfl
        · rfl
      · split
        · split <;> rfl
        · rfl
      · rfl
    · rfl
  · split
    · generalize boolT _ _ = bb
      cases bb with
      | true => simp only [cond_true]; rw [Ir]; conv => rhs; rw [Ir]
                rw [bYV]; rfl
      | false => rfl
    · split
      · split <;> rfl
      · rfl
    · rfl
  · split
    · rw [Lq]; conv => rhs; rw [Lq]
      rw [bYV]; rfl
    · rfl
  · split
    · rw [Eu]; conv => rhs; rw [Eu]
      rw [bYV]; rfl
    · rfl
  · split
    · split
      · split
        · split <;> rfl
        · rfl
      · rfl
    · rfl
  · split
    · split
      · split
        · split
          · rw [lD]; conv => rhs; rw [lD]
            rw [bYV]; rfl
          · rfl
        · rw [lD]; conv => rhs; rw [lD]
          rw [bYV]; rfl
        · rw [lD]; conv => rhs; rw [lD]
          rw [bYV]; rfl
        · rw [lD]; conv => rhs; rw [lD]
          rw [bYV]; rfl
        · rfl
      · split
        · split
          · rw [lD]; conv => rhs; rw [lD]
            rw [bYV]; rfl
          · rfl
        · rfl
      · rfl
    · rfl
  · split
    · split
      · split <;> rfl
      · split <;> rfl
      · rfl
    · rfl
  · split
    · split
      · split <;> rfl
      · rfl
    · rfl
  · split
    · split
      · split
        · split
          · rfl
          · rfl
          · rw [Rj]; conv => rhs; rw [Rj]
            rw [bYV]; rfl
        · rfl
      · split
        · rw [tE]; conv => rhs; rw [tE]
          rw [bYV]; rfl
        · rw [tE]; conv => rhs; rw [tE]
          rw [bYV]; rfl
        · rfl
      · rfl
    · rfl
  · split
    · split
      · split <;> rfl
      · rfl
    · split <;> rfl
    · rfl
  · split
    · split <;> rfl
    · rfl
  · split
    · split
      · unfold aN
        split <;> rfl
      · split
        · exact aBV _ _ _ _ _ _ _
        · exact Yu _ _ _ _ _ _ _ _
    · rfl
  · exact Qo _ _ _ _ _ _ _
  · rfl
theorem aCX(fr:Nat->A)(d:Nat)(b:Bool)(h:fr d=Dh (.bool b)):Co fr d (Dh (.bool b))=fr:=Wb fr d _ h
theorem Re{R:Type}(E:Env)(draw:Bool)(ops:Array Oper)(base:Nat)(K:St->Option R)(r:R):∀(l:List Oper) (i:Nat) (qG:List Rec) (st:St),
  (∀(k:Nat) (o:Oper),l[k]?=some o->ops[i+k]?=some o)->opsK E draw ops base l i qG st K=some r ->
  ∃ds gM,K gM=some r/\zW E ops base ds st gM/\ds.map (·.i)=List.range' i l.length /\
   (draw=true->(∀rc∈qG,∀d∈ds,indep ops rc d.i d.o d.t (d.u.map (·.1))=true)/\cAM (Fa ops) ds/\∀d∈ds,zJ d.i d.o=true)
 | [],i,qG,st,_,h=>⟨[],st,h,rfl,rfl,fun _=>⟨fun _ _ _ hd=>(by cases hd),List.Pairwise.nil,fun _ hd=>(by cases hd)⟩⟩
 |o :: l,i,qG,st,hl,h=>by
  have hi:ops[i]?=some o:=by simpa using hl 0 o rfl
  have bHC:∀(k:Nat) (o':Oper),l[k]?=some o'->ops[i+1+k]?=some o':=fun k o' hk=>by have:=hl (k+1) o' (by simpa using hk);rwa [show i+(k+1)=i+1+k by omega]at this
  unfold opsK at h;cases bLB:kD E.nt o&&(!draw||zJ i o)with
  |false=>rw[bLB]at h;cases h
  |true =>
   rw[bLB]at h;simp only[cond_true]at h;obtain⟨aHB,bHH⟩:=(bYT _ _).mp bLB;have go:∀(x:A) (u:sU) (t:List Nat),Ak E ops base ⟨i,o,x,u,t⟩ st (after o st x u) ->
     (bif !draw||qG.all fun r=>indep ops r i o t (u.map (·.1))then opsK E draw ops base l (i+1) (⟨i,o,t,u.map (·.1)⟩ :: qG) (after o st x u) K else none)=some r ->
     ∃ds gM,K gM=some r/\zW E ops base ds st gM/\ds.map (·.i)=List.range' i (o :: l).length /\
      (draw=true->(∀rc∈qG,∀d∈ds,indep ops rc d.i d.o d.t (d.u.map (·.1))=true)/\cAM (Fa ops) ds/\∀d∈ds,zJ d.i d.o=true):=by
    intro x u t hs hk;cases hc:!draw||qG.all fun r=>indep ops r i o t (u.map (·.1))with
    |false=>rw[hc]at hk;cases hk
    |true =>
     rw[hc]at hk;simp only[cond_true]at hk;obtain⟨ds,gM,h1,h2,h3,h4⟩:=Re E draw ops base K r l (i+1) _ _ bHC hk;refine⟨⟨i,o,x,u,t⟩ :: ds,gM,h1,⟨_,hs,h2⟩,by simp[h3,List.range'_succ],fun Qb=>?_⟩;obtain⟨h5,h6,h7⟩:=h4 Qb;subst Qb;simp only[cAN,cAO]at hc bHH;refine⟨fun rc bOT d hd=>?_,List.pairwise_cons.2 ⟨fun d hd=>(show indep ops ⟨i,o,t,u.map (·.1)⟩ d.i d.o d.t (d.u.map (·.1))=true from h5 _ (bYU ..) d hd),h6⟩,fun d hd=>?_⟩
     ·rcases List.mem_cons.1 hd with rfl |hd
      ·exact List.all_eq_true.1 hc rc bOT
      ·exact h5 rc (by simp[bOT]) d hd
     ·rcases List.mem_cons.1 hd with rfl |hd
      ·exact bHH
      ·exact h7 d hd
   split at h
   ·rename_i hg;rw[qT]at h;obtain⟨⟨x,u⟩,he,h⟩:=Option.bind_eq_some_iff.1 h;exact go x u _ ⟨hi,aHB,.inl ⟨by unfold gd;rw[hg],he,rfl⟩,rfl⟩ h
   ·rename_i j want hg;split at h
    ·rename_i d hd;split at h
     ·rename_i b hb;have e0:Co st.fr d (Dh (.bool b))=st.fr:=aCX st.fr d b hb;have bBL:∀w,(b==want)=w->gd ops o st.fr=if w=true then .run else .skip:=by
       intro w hw;unfold gd;rw[hg];simp only[hd,hb];subst hw
       by_cases aSH:b=want <;> simp[aSH]
      have key:(bif b==want then
        effK E (base+8*i) o (evA E st.fr) st.hp fun a u =>
         bif !draw||qG.all fun r=>indep ops r i o (uW o (evA E st.fr) u) (u.map (·.1))then opsK E draw ops base l (i+1) (⟨i,o,uW o (evA E st.fr) u,u.map (·.1)⟩ :: qG) (after o st a u) K else none
       else bif !draw||qG.all fun r=>indep ops r i o [] []then opsK E draw ops base l (i+1) (⟨i,o,[],[]⟩ :: qG) (after o st (.Pm []) []) K else none)=some r:=by
       cases b
       ·simp only[cond_false,e0]at h;exact h
       ·simp only[cond_true,e0]at h;exact h
      cases aSH:b==want with
      |true =>
       rw[aSH]at key;simp only[cond_true]at key;rw[qT]at key;obtain⟨⟨x,u⟩,he,key⟩:=Option.bind_eq_some_iff.1 key;exact go x u _ ⟨hi,aHB,.inl ⟨by rw[bBL true aSH];rfl,he,rfl⟩,rfl⟩ key
      |false =>
       rw[aSH]at key;simp only[cond_false]at key;exact go (.Pm []) [] [] ⟨hi,aHB,.inr ⟨by rw[bBL false aSH];rfl,rfl,rfl,rfl⟩,rfl⟩ key
     ·rename_i hb;exact go (.Pm []) [] [] ⟨hi,aHB,.inr ⟨by unfold gd;rw[hg];simp only[hd,hb],rfl,rfl,rfl⟩,rfl⟩ h
     ·cases h
    ·cases h
end AI
namespace AI
open Go Go.RowKit
theorem Db{xs ys:List Nat}(h:Qk xs ys=true){i:Nat}(hx:i∈xs):i ∉ ys:=by
 intro hy;have:=List.all_eq_true.1 h i hx;simp at this;exact this hy
theorem jG{u:sU}{hp:Nat->Option lO}{i:Nat}(h:i ∉ u.map (·.1)):applyUps u hp i=hp i:=by
 induction u generalizing hp with
 |nil=>rfl
 |cons p u ih =>
  obtain⟨j,b⟩:=p;simp only[bYM,bZT,not_or]at h;rw[applyUps,ih h.2,gK _ _ h.1]
theorem Du{u:sU}{hp hp':Nat->Option lO}{i:Nat}(h:i∈u.map (·.1)):applyUps u hp i=applyUps u hp' i:=by
 induction u generalizing hp hp' with
 |nil=>cases h
 |cons p u ih =>
  obtain⟨j,b⟩:=p;simp only[applyUps]
  by_cases hi:i∈u.map (·.1)
  ·exact ih hi
  ·have e:i=j:=by simpa [hi] using h
   subst e;rw[jG hi,jG hi,cH,cH]
theorem Qr{u v:sU}{hp:Nat->Option lO}(h:Qk (u.map (·.1)) (v.map (·.1))=true):applyUps u (applyUps v hp)=applyUps v (applyUps u hp):=by
 funext i
 by_cases hu:i∈u.map (·.1)
 ·have hv:i ∉ v.map (·.1):=Db h hu;rw[jG hv];exact Du hu
 ·rw[jG hu]
  by_cases hv:i∈v.map (·.1)
  ·exact Du hv
  ·rw[jG hv,jG hv,jG hu]
theorem aRB{o:Oper}{x:A}{fr:Nat->A}{t:Nat}(h:o.dst≠some t):Ei o x fr t=fr t:=by
 unfold Ei;cases hd:o.dst with
 |some d=>exact gK _ _ (fun e=>h (by rw[hd,e]))
 |none=>rfl
theorem aGM{o o':Oper}{x x':A}{fr:Nat->A}(h:∀d,o.dst=some d->o'.dst≠some d):Ei o x (Ei o' x' fr)=Ei o' x' (Ei o x fr):=by
 unfold Ei;cases hd:o.dst with
 |none=>rfl
 |some d =>
  cases Bl:o'.dst with
  |none=>rfl
  |some d' =>
   have Fj:d≠d':=fun e=>h d hd (by rw[Bl,e])
   funext t;simp only
   by_cases h1:t=d
   ·subst h1;rw[cH,gK _ _ Fj,cH]
   ·rw[gK _ _ h1]
    by_cases h2:t=d'
    ·subst h2;rw[cH,cH]
    ·rw[gK _ _ h2,gK _ _ h2,gK _ _ h1]
def bAV(ops:Array Oper)(p q:Dt):Prop:=p.o.apart ops q.o=true/\Qk (p.u.map (·.1)) q.t=true/\Qk (q.u.map (·.1)) p.t=true
theorem bAV.symm{ops:Array Oper}{p q:Dt}(h:bAV ops p q):bAV ops q p:=by
 refine⟨?_,h.2.2,h.2.1⟩;obtain⟨h1,h2,h3⟩:=Oper.apart_spec h.1;unfold Oper.apart;rw[bYT];constructor
 ·cases hq:q.o.dst with
  |none=>rfl
  |some d =>
   simp only[bYT,bZV,bne_iff_ne,ne_eq];refine⟨by simpa using h3 d hq,fun hp=>?_⟩;exact h2 d hp hq
 ·cases hp:p.o.dst with
  |none=>rfl
  |some d=>simpa using h1 d hp
section
variable {E:Env} {ops:Array Oper} {base:Nat}
theorem Tm{o:Oper}{t:Tmp}(h:Operand.tmp t∈o.op.operands.toList):t∈o.looksAt ops:=by
 unfold Oper.looksAt;exact List.mem_append.2 (.inl (List.mem_filterMap.2 ⟨_,h,rfl⟩))
theorem aMU{fr bBV:Nat->A}{o:Oper}(h:∀t,t∈o.looksAt ops->fr t=bBV t){x:Operand}(hx:x∈o.op.operands.toList):evA E fr x=evA E bBV x:=by
 cases x with
 |tmp t=>exact h t (Tm hx)
 |_=>rfl
theorem aEZ{fr bBV:Nat->A}{o:Oper}(h:∀t,t∈o.looksAt ops->fr t=bBV t):gd ops o fr=gd ops o bBV:=by
 unfold gd;cases hg:o.guard with
 |none=>rfl
 |some p =>
  obtain⟨j,want⟩:=p;simp only;cases hd:(ops[j]?).bind (·.dst)with
  |none=>rfl
  |some d =>
   have:fr d=bBV d:=h d (by
    unfold Oper.looksAt;rw[hg];exact List.mem_append.2 (.inr (by simp[hd])))
   simp only[this]
theorem Ak.same{p:Dt}{st st1:St}(bBM:∀t,t∈p.o.looksAt ops->st.fr t=st1.fr t)(Xu:∀i,i∈p.t->st.hp i=st1.hp i){bGN:St}(h:Ak E ops base p st1 bGN):Ak E ops base p st (after p.o st p.x p.u):=by
 obtain⟨h1,h2,h3,_⟩:=h;refine⟨h1,h2,?_,rfl⟩;rcases h3 with ⟨hg,he,ht⟩ |⟨hg,hx,hu,ht⟩
 ·have jU:∀x,x∈p.o.op.operands.toList->evA E st1.fr x=evA E st.fr x:=fun x hx=>(aMU (ops:=ops) bBM hx).symm
  refine .inl ⟨by rw[aEZ (ops:=ops) bBM];exact hg,?_,?_⟩
  ·rw[<-he];exact(aNE jU (fun x hx i hi=>(Xu i (by rw[ht];exact List.mem_append.2 (.inl (List.mem_flatMap.2 ⟨x,hx,hi⟩)))).symm)).symm
  ·rw[ht];unfold uW;congr 1;rw[cBI,cBI];congr 1;exact cAD fun x hx=>by rw[jU x hx]
 ·exact .inr ⟨by rw[aEZ (ops:=ops) bBM];exact hg,hx,hu,ht⟩
theorem Dv{q:Dt}{st:St}{o:Oper}(h:∀d,q.o.dst=some d->d ∉ o.looksAt ops):∀t,t∈o.looksAt ops->st.fr t=(after q.o st q.x q.u).fr t:=by
 intro t ht;exact(aRB (fun e=>h t e ht)).symm
theorem aIZ{p:Dt}{st gM:St}(h:Ak E ops base p st gM):∀i,i∈p.u.map (·.1)->i∈p.t:=by
 intro i hi;obtain⟨_,_,h3,_⟩:=h;rcases h3 with ⟨_,_,ht⟩ |⟨_,_,hu,_⟩
 ·rw[ht];exact List.mem_append.2 (.inr hi)
 ·rw[hu]at hi;cases hi
theorem zW.swap{p q:Dt}{l:List Dt}{st bCL:St}(hi:bAV ops q p)(h:zW E ops base (q :: p :: l) st bCL):zW E ops base (p :: q :: l) st bCL:=by
 obtain⟨st1,hq,bGN,hp,hl⟩:=h;obtain⟨a1,a2,a3⟩:=Oper.apart_spec hi.1;have e1:st1=after q.o st q.x q.u:=hq.2.2.2;have e2:bGN=after p.o st1 p.x p.u:=hp.2.2.2;have hp':Ak E ops base p st (after p.o st p.x p.u):=by
  refine Ak.same (st1:=st1) ?_ ?_ hp
  ·rw[e1];exact Dv a1
  ·intro i aER;rw[e1];exact(jG (fun hm=>Db hi.2.1 hm aER)).symm
 have aEN:Ak E ops base q (after p.o st p.x p.u) (after q.o (after p.o st p.x p.u) q.x q.u):=by
  refine Ak.same (st1:=st) ?_ ?_ hq
  ·intro t ht;exact(Dv a3 t ht).symm
  ·intro i aER;exact jG (fun hm=>Db hi.2.2 hm aER)
 have e3:after q.o (after p.o st p.x p.u) q.x q.u=bGN:=by
  rw[e2,e1];unfold after;simp only;rw[aGM (o:=q.o) (o':=p.o) (fun d hd=>a2 d hd),Qr];have hu:=aIZ hp;unfold Qk;rw[List.all_eq_true];intro i aER;have:=Db hi.2.1 aER;simp only[bZV,List.elem_eq_mem,decide_eq_false_iff_not];exact fun hm=>this (hu i hm)
 exact⟨_,hp',_,aEN,by rw[e3];exact hl⟩
theorem zW.front{p:Dt}{l2:List Dt}{bCL:St}:∀{l1:List Dt} {st:St},(∀q∈l1,bAV ops q p)->zW E ops base (l1 ++ p :: l2) st bCL->zW E ops base (p :: (l1 ++ l2)) st bCL
 | [],st,_,h=>h
 |q :: l1,st,hi,h=>by
  obtain⟨st1,hq,h⟩:=h;have ih:=zW.front (fun q' aEN=>hi q' (bZG _ aEN)) h;exact zW.swap (hi q (bYU ..)) ⟨st1,hq,ih⟩
end
def aTN(base:Nat)(done:Nat->Prop)(id:Nat):Prop:=id<base\/∃i,done i/\base+8*i<=id/\id<base+8*i+8
section
variable {P:Program} {E:Env} {X:Nat->Prop} {w0:Old} {ops:Array Oper} {base:Nat}
theorem jX.tP{ρ:Nat->Nat}{al al':Nat->Prop}{fr:Nat->A}{hp:Nat->Option lO}{a:Act}{w:World}(h:jX E X w0 ρ al fr hp a w)(tW:∀i,al i->al' i):jX E X w0 ρ al' fr hp a w :=
 { fr:=h.fr,sz:=h.sz,nod:=h.nod,blk:=h.blk,inj:=h.inj,alh:=fun i b hb=>tW i (h.alh i b hb),alr:=fun t i hi=>tW i (h.alr t i hi),below:=h.below,x0:=h.x0,glob:=h.glob,mg:=h.mg,al0:=fun i hi=>tW i (h.al0 i hi),pK:=h.pK }
theorem Ro{ρ:Nat->Nat}{al:Nat->Prop}{fr:Nat->A}{hp:Nat->Option lO}{a:Act}{w:World}(h:jX E X w0 ρ al fr hp a w){o:Oper} :
  (gd ops o fr=.run->Region.wanted o (yielded ops a.tmps)=true)/\(gd ops o fr=.skip->Region.wanted o (yielded ops a.tmps)=false):=by
 unfold gd Region.wanted;cases hg:o.guard with
 |none=>exact⟨fun _=>rfl,fun h=>by cases h⟩
 |some p =>
  obtain⟨j,want⟩:=p;simp only;cases hd:(ops[j]?).bind (·.dst)with
  |none=>exact⟨fun h=>(by cases h),fun h=>(by cases h)⟩
  |some d =>
   simp only;split
   ·rename_i b hb;have hr:=h.fr d;rw[hb]at hr;have hv:a.tmps.getD d undef=.bool b:=hr.1;have hy:yielded ops a.tmps j=some b:=by
     unfold yielded;rw[hd];simp only[cAE];have:a.tmps[d]?=some (.bool b):=by
      rw[Array.getD_eq_getD_getElem?]at hv;cases hq:a.tmps[d]? with
      |none=>rw[hq]at hv;simp[undef]at hv
      |some v=>rw[hq]at hv;simp at hv;rw[hv]
     rw[this]
    rw[hy]
    by_cases aSH:b=want
    ·simp[aSH]
    ·simp[aSH]
   ·rename_i hb;have hr:=h.fr d;rw[hb]at hr;obtain⟨arr,hv,_⟩:=hr;have hy:yielded ops a.tmps j=none:=by
     unfold yielded;rw[hd];simp only[cAE];rw[Array.getD_eq_getD_getElem?]at hv;cases hq:a.tmps[d]? with
     |none=>rfl
     |some v=>rw[hq]at hv;simp at hv;rw[hv]
    rw[hy];exact⟨fun h=>(by cases h),fun _=>rfl⟩
   ·exact⟨fun h=>(by cases h),fun h=>(by cases h)⟩
theorem Ak.wp(hT:qE P E.T)(hC:mD P E){ρ:Nat->Nat}{done:Nat->Prop}{a:Act}{w:World}{st gM:St}{d:Dt}(hs:Ak E ops base d st gM)(h:jX E X w0 ρ (aTN base done) st.fr st.hp a w)(hnd:¬done d.i)
  (K:Act->World->Prop) (Q:Exit->Act->World->Prop) (hK:∀ρ' a' w',jX E X w0 ρ' (aTN base fun i=>done i\/i=d.i) gM.fr gM.hp a' w'->K a' w'):wpOp P ops Q d.i K a w:=by
 obtain⟨h1,h2,h3,rfl⟩:=hs;unfold wpOp;rw[h1];simp only;have Rk:∀i,pY (aTN base done) (base+8*d.i) i->aTN base (fun i=>done i\/i=d.i) i:=by
  rintro i ((hi |⟨j,hj,aGZ⟩) |hi)
  ·exact .inl hi
  ·exact .inr ⟨j,.inl hj,aGZ⟩
  ·exact .inr ⟨d.i,.inr rfl,hi⟩
 rcases h3 with ⟨hg,he,ht⟩ |⟨hg,hx,hu,ht⟩
 ·rw[if_pos ((Ro h).1 hg)];refine .inl (aAB h h2 hT hC ?_ he K Q (fun ρ' v w' aAW=>hK ρ' _ w' (aAW.tP Rk)));rintro j hj (jM |⟨i,hi,bBK⟩)
  ·omega
  ·have:i=d.i:=by omega
   subst this;exact hnd hi
 ·rw[if_neg (by rw[(Ro h).2 hg];simp)];rw[hx,hu]at hK;exact hK ρ _ w ((h.pure h2 (x:=.Pm []) (v:=undef) ⟨#[],rfl,rfl,fun i y u hy=>by cases hy⟩ (by simp[refs])).tP (fun i hi=>Rk i (.inl hi)))
theorem zW.wpOps(hT:qE P E.T)(hC:mD P E)(Q:Exit->Act->World->Prop):∀(ds:List Dt) (done:Nat->Prop) (ρ:Nat->Nat) (a:Act) (w:World) (st gM:St),zW E ops base ds st gM->jX E X w0 ρ (aTN base done) st.fr st.hp a w ->
  (∀d∈ds,¬done d.i)->(ds.map (·.i)).Nodup->(∀ρ' a' w',jX E X w0 ρ' (aTN base fun i=>done i\/i∈ds.map (·.i)) gM.fr gM.hp a' w'->Q .normal a' w') ->
  Go.wpOps P ops Q (ds.map (·.i)) a w
 | [],done,ρ,a,w,st,gM,h,hs,_,_,hQ=>by
  cases h;exact hQ ρ a w (hs.tP (fun i hi=>hi.imp id fun⟨j,hj,aGZ⟩=>⟨j,.inl hj,aGZ⟩))
 |d :: ds,done,ρ,a,w,st,gM,h,hs,hnd,Cy,hQ=>by
  obtain⟨st1,hd,hr⟩:=h;rw[bYM,wpOps_cons];rw[bYM,List.nodup_cons]at Cy;refine hd.wp hT hC hs (hnd d (bYU ..)) _ _ (fun ρ' a' w' sT=>?_);refine zW.wpOps hT hC Q ds _ ρ' a' w' st1 gM hr sT (fun d' Bl Xw=>?_) Cy.2 (fun ρ2 a2 w2 Pp=>hQ ρ2 a2 w2 (Pp.tP ?_))
  ·rcases Xw with Xw |Xw
   ·exact hnd d' (bZG _ Bl) Xw
   ·exact Cy.1 (List.mem_map.2 ⟨d',Bl,Xw⟩)
  ·rintro i (hi |⟨j,hj,aGZ⟩)
   ·exact .inl hi
   ·refine .inr ⟨j,?_,aGZ⟩;rcases hj with (hj |hj) |hj
    ·exact .inl hj
    ·exact .inr (by rw[bYM,hj];exact bYU ..)
    ·exact .inr (by rw[bYM];exact bZG _ hj)
theorem Fa.ind{p q:Dt}(h:Fa ops p q)(Fj:¬(q.o.after.any fun e=>Region.binds .any e&&e.on==p.i)=true)(bKE:¬befB ops p.i 3 q.o=true):bAV ops p q:=by
 unfold Fa indep at h;rw[bZW,bZW]at h;rcases h with (h |h) |h
 ·exact absurd h Fj
 ·simp only[bYT]at h;exact⟨h.1.1,h.1.2,h.2⟩
 ·exact absurd h bKE
def Vp(ops:Array Oper)(iU:Array Bool):Prop:=∀(j:Nat) (o:Oper),iU.getD j false=true->ops[j]?=some o->o.after.all (fun e=>!Region.binds .any e||iU.getD e.on false)=true
theorem Vp.bQI{iU:Array Bool}(hc:Vp ops iU){j:Nat}:∀(n:Nat) (o:Oper),o.after.all (fun e=>!Region.binds .any e||iU.getD e.on false)=true->befB ops j n o=true->iU.getD j false=true
 |0,_,_,h=>by cases h
 |n+1,o,ha,h=>by
  unfold befB at h;rw[Array.any_eq_true']at h;obtain⟨e,he,aYO⟩:=h;rw[bYT]at aYO;rw[Array.all_eq_true_iff_forall_mem]at ha;have h1:=ha e he;rw[aYO.1]at h1;simp only[cAN,cAO]at h1;have h2:=aYO.2;rw[bZW]at h2;rcases h2 with h2 |h2
  ·have:e.on=j:=by simpa using h2
   rw[<-this];exact h1
  ·cases ho:ops[e.on]? with
   |none=>rw[ho]at h2;cases h2
   |some o' =>
    rw[ho]at h2;exact hc.bQI n o' (hc e.on o' h1 ho) h2
theorem zW.wpAny(hT:qE P E.T)(hC:mD P E)(Q:Exit->Act->World->Prop)(n:Nat)(hn:n=ops.size):∀(fuel:Nat) (ds:List Dt) (iU:Array Bool) (ρ:Nat->Nat) (a:Act) (w:World) (st gM:St),ds.length=fuel->iU.size=n ->
  (∀i,i∈ds.map (·.i)↔i<n/\iU.getD i true=false)->(ds.map (·.i)).Pairwise (· < ·)->cAM (Fa ops) ds->(∀d∈ds,zJ d.i d.o=true)->Vp ops iU ->
  zW E ops base ds st gM->jX E X w0 ρ (aTN base fun i=>iU.getD i false=true) st.fr st.hp a w ->
  (∀ρ' a' w',jX E X w0 ρ' (aTN base fun i=>i<n) gM.fr gM.hp a' w'->Q .normal a' w') ->
  Go.wpAny P .any ops Q fuel iU a w:=by
 intro fuel
 induction fuel with
 |zero =>
  intro ds iU ρ a w st gM hlen bPC Nc _ _ _ _ hI hs hQ;obtain rfl:ds=[]:=cBC hlen;cases hI;have Bn:∀i,i<n->iU.getD i true=true:=by
   intro i hi;cases hq:iU.getD i true with
   |true=>rfl
   |false=>exact absurd ((Nc i).2 ⟨hi,hq⟩) (by simp)
  refine⟨?_,hQ ρ a w (hs.tP ?_)⟩
  ·unfold Region.ready;rw[List.filter_eq_nil_iff];intro i hi;rw[cAP,<-hn]at hi;simp[Bn i hi]
  ·rintro i (hi |⟨j,hj,aGZ⟩)
   ·exact .inl hi
   ·refine .inr ⟨j,?_,aGZ⟩;rcases bZC j n with h |h
    ·exact h
    ·rw[Array.getD_eq_getD_getElem?,Array.getElem?_eq_none (by omega)]at hj;cases hj
 |succ fuel ih =>
  intro ds iU ρ a w st gM hlen bPC Nc aGX Zr aES aIS hI hs hQ;have wH:∀d∈ds,ops[d.i]?=some d.o:=by
   have:∀(l:List Dt) (s s':St),zW E ops base l s s'->∀d∈l,ops[d.i]?=some d.o:=by
    intro l
    induction l with
    |nil=>intro s s' _ d hd;cases hd
    |cons d l ih =>
     intro s s' h d' Bl;obtain⟨s1,h1,h2⟩:=h;rcases List.mem_cons.1 Bl with rfl |Bl
     ·exact h1.1
     ·exact ih s1 s' h2 d' Bl
   exact this ds st gM hI
  have aLP:∀i,i∈Region.ready .any ops iU↔i<n/\iU.getD i true=false/\∃o,ops[i]?=some o/\o.after.all (fun e=>!Region.binds .any e||iU.getD e.on false)=true:=by
   intro i;unfold Region.ready;rw[List.mem_filter,cAP,<-hn];constructor
   ·rintro ⟨h1,h2⟩;rw[bYT]at h2;refine⟨h1,by simpa using h2.1,?_⟩;cases ho:ops[i]? with
    |none=>rw[ho]at h2;simp at h2
    |some o=>exact⟨o,rfl,by have:=h2.2;rw[ho]at this;simpa using this⟩
   ·rintro ⟨h1,h2,o,ho,h3⟩;refine⟨h1,?_⟩;rw[bYT];exact⟨by simp[h2],by rw[ho];simpa using h3⟩
  refine⟨fun bDZ=>?_,fun i hi=>?_⟩
  ·
   exfalso
   match ds,hlen with
   |d :: ds,_ =>
    have hd:d.i<n/\iU.getD d.i true=false:=(Nc d.i).1 (bYU ..);have:d.i∈Region.ready .any ops iU:=by
     refine(aLP d.i).2 ⟨hd.1,hd.2,d.o,wH d (bYU ..),?_⟩;have he:=aES d (bYU ..);unfold zJ at he;rw[Array.all_eq_true_iff_forall_mem]at he ⊢;intro e bVH;have:=he e bVH;rw[bZW]at this ⊢;rcases this with h |h
     ·exact .inl h
     ·right;have jM:e.on<d.i:=cAL h;cases hq:iU.getD e.on false with
      |true=>rfl
      |false =>
       have aEN:iU.getD e.on true=false:=by
        rw[Array.getD_eq_getD_getElem?]at hq ⊢;rw[Array.getElem?_eq_getElem (by omega)]at hq ⊢;exact hq
       have hm:=(Nc e.on).2 ⟨by omega,aEN⟩;rw[bYM,bZT]at hm;rw[bYM,List.pairwise_cons]at aGX;rcases hm with hm |hm
       ·omega
       ·have:=aGX.1 _ hm;omega
    rw[bDZ]at this;cases this
  ·obtain⟨h1,h2,o,ho,h3⟩:=(aLP i).1 hi;have bUU:=(Nc i).2 ⟨h1,h2⟩;obtain⟨p,hp,bDR⟩:=List.mem_map.1 bUU;obtain⟨l1,l2,rfl⟩:=List.append_of_mem hp;have bOX:p.o=o:=by have:=wH p hp;rw[bDR,ho]at this;exact(Option.some.inj this).symm
   have bKQ:∀q∈l1,bAV ops q p:=by
    intro q hq;have bUA:Fa ops q p:=(List.pairwise_append.1 Zr).2.2 q hq p (bYU ..);have bUE:¬iU.getD q.i false=true:=by
     have bKA:=(Nc q.i).1 (List.mem_map.2 ⟨q,by simp[hq],rfl⟩);have h4:=bKA.2;rw[Array.getD_eq_getD_getElem?,Array.getElem?_eq_getElem (by omega)]at h4;rw[Array.getD_eq_getD_getElem?,Array.getElem?_eq_getElem (by omega)];rw[cBJ]at h4 ⊢;rw[h4];simp
    refine bUA.ind (fun Gl=>?_) (fun hb=>bUE (aIS.bQI 3 p.o (by rw[bOX];exact h3) hb));rw[Array.any_eq_true']at Gl;obtain⟨e,he,aYO⟩:=Gl;rw[bYT]at aYO;rw[Array.all_eq_true_iff_forall_mem]at h3;have:=h3 e (by rw[<-bOX];exact he);rw[aYO.1]at this;simp only[cAN,cAO]at this;have bTW:e.on=q.i:=by simpa using aYO.2
    have bKA:=(Nc q.i).1 (List.mem_map.2 ⟨q,by simp[hq],rfl⟩);rw[bTW]at this;rw[Array.getD_eq_getD_getElem?,Array.getElem?_eq_getElem (by omega)]at this;have h4:=bKA.2;rw[Array.getD_eq_getD_getElem?,Array.getElem?_eq_getElem (by omega)]at h4;rw[cBJ]at this h4;rw[this]at h4;cases h4
   obtain⟨st1,Xk,Ah⟩:=zW.front bKQ hI;rw[<-bDR];have aAY:iU.getD p.i false=false:=by
    have:=h2;rw[<-bDR]at this;rw[Array.getD_eq_getD_getElem?,Array.getElem?_eq_getElem (by omega)]at this ⊢;exact this
   refine Xk.wp hT hC hs (by simp[aAY]) _ _ (fun ρ' a' w' sT=>?_);have aYA:∀x∈(l1 ++ l2).map (·.i),x≠p.i:=by
    intro x hx;rw[bZM,bYM,List.pairwise_append]at aGX;rw[bZM,bZP]at hx;rcases hx with hx |hx
    ·have:=aGX.2.2 x hx p.i (bYU ..);omega
    ·have:=(List.pairwise_cons.1 aGX.2.1).1 x hx;omega
   have bLI:Vp ops (iU.setIfInBounds p.i true):=by
    have Rk:∀k,iU.getD k false=true->(iU.setIfInBounds p.i true).getD k false=true:=by
     intro k hk;rw[Array.getD_eq_getD_getElem?,Array.getElem?_setIfInBounds]
     by_cases bPE:p.i=k
     ·rw[if_pos bPE,aR];rfl
     ·rw[if_neg bPE,<-Array.getD_eq_getD_getElem?];exact hk
    have aRU:∀(o':Oper),o'.after.all (fun e=>!Region.binds .any e||iU.getD e.on false)=true->o'.after.all (fun e=>!Region.binds .any e||(iU.setIfInBounds p.i true).getD e.on false)=true:=by
     intro o' aIP;rw[Array.all_eq_true_iff_forall_mem]at aIP ⊢;intro e he;have:=aIP e he;rw[bZW]at this ⊢;exact this.imp id (Rk _)
    intro j o' hj aIP
    by_cases bEH:p.i=j
    ·have:o'=o:=by rw[<-bEH,bDR,ho]at aIP;exact(Option.some.inj aIP).symm
     rw[this];exact aRU o h3
    ·rw[Array.getD_eq_getD_getElem?,Array.getElem?_setIfInBounds,if_neg bEH,<-Array.getD_eq_getD_getElem?]at hj;exact aRU o' (aIS j o' hj aIP)
   refine ih (l1 ++ l2) _ ρ' a' w' st1 gM (by simp at hlen ⊢;omega) (by simpa using bPC) ?_ ?_ ?_ ?_ bLI Ah (sT.tP ?_) hQ
   ·intro x;have Ku:=Nc x;rw[bZM,bYM,bZP,bZT]at Ku;rw[bZM,bZP];rw[Array.getD_eq_getD_getElem?,Array.getElem?_setIfInBounds];constructor
    ·intro hx;have Fj:=aYA x (by rw[bZM,bZP];exact hx);have:=Ku.1 (hx.imp id .inr);refine⟨this.1,?_⟩;rw[if_neg (fun e=>Fj e.symm),<-Array.getD_eq_getD_getElem?];exact this.2
    ·rintro ⟨bTC,Dp⟩
     by_cases bBC:p.i=x
     ·rw[if_pos bBC,aR]at Dp;simp at Dp
     ·rw[if_neg bBC,<-Array.getD_eq_getD_getElem?]at Dp;rcases Ku.2 ⟨bTC,Dp⟩with h |h |h
      ·exact .inl h
      ·exact absurd h.symm bBC
      ·exact .inr h
   ·exact aGX.sublist (by simp)
   ·exact Zr.sublist (by simp)
   ·exact fun d hd=>aES d (by rcases List.mem_append.1 hd with h |h <;> simp[h])
   ·rintro x (hx |⟨j,hj,aGZ⟩)
    ·exact .inl hx
    ·refine .inr ⟨j,?_,aGZ⟩;show(iU.setIfInBounds p.i true).getD j false=true;rw[Array.getD_eq_getD_getElem?,Array.getElem?_setIfInBounds];rcases hj with hj |hj
     ·by_cases bEH:p.i=j
      ·rw[if_pos bEH,aR];rfl
      ·rw[if_neg bEH,<-Array.getD_eq_getD_getElem?];exact hj
     ·rw[if_pos hj.symm,aR];rfl
theorem Sx(hT:qE P E.T)(hC:mD P E)(hm:P.follows .mixedOrders=true){bRS:Nat}{draw:Bool}{R:Type}{K:St->Option R}{r:R}{st:St}{ρ:Nat->Nat}{a:Act}{w:World}(hs:jX E X w0 ρ (fun i=>i<st.n) st.fr st.hp a w)
  (he:opsK E draw ops st.n ops.toList 0 [] st K=some r) (Q:Exit->Act->World->Prop) (hQ:∀gM ρ' a' w',K gM=some r->jX E X w0 ρ' (fun i=>i<st.n+8*ops.size) gM.fr gM.hp a' w'->Q .normal a' w') :
  (Code.region bRS ops draw).wp P Q a w:=by
 obtain⟨ds,gM,hK,hI,bEM,bET⟩:=Re E draw ops st.n K r ops.toList 0 [] st (fun k o hk=>by rw[bYP];simpa using hk) he;have hlen:ds.length=ops.size:=by have:=congrArg List.length bEM;simpa using this
 have Tw:ds.map (·.i)=bZX ops.size:=by rw[bEM,Array.length_toList,List.range_eq_range']
 have tW:∀i,aTN st.n (fun i=>i<ops.size) i->i<st.n+8*ops.size:=by
  rintro i (hi |⟨j,hj,aGZ⟩) <;> omega
 have Nc:∀i,i∈ds.map (·.i)↔i<ops.size:=fun i=>by rw[Tw,cAP]
 cases draw with
 |false =>
  refine wp_region ?_;rw[<-Tw];refine hI.wpOps hT hC Q ds (fun _=>False) ρ a w st gM (hs.tP (fun i hi=>.inl hi)) (fun _ _ h=>h) (by rw[Tw];exact List.nodup_range) (fun ρ' a' w' sT=>hQ gM ρ' a' w' hK (sT.tP (fun i hi=>tW i ?_)));rcases hi with hi |⟨j,hj,aGZ⟩
  ·exact .inl hi
  ·exact .inr ⟨j,(Nc j).1 (hj.resolve_left id),aGZ⟩
 |true =>
  obtain⟨_,Zr,aES⟩:=bET rfl;refine wp_region_any hm ?_;have Zq:jX E X w0 ρ (fun i=>i<st.n) st.fr st.hp a { w with drawn:=w.drawn+1 }:=hs.drew;refine zW.wpAny hT hC Q ops.size rfl ops.size ds _ ρ a _ st gM hlen (by simp) (fun i=>?_) ?_ Zr aES (fun j o hj _=>?_) hI (Zq.tP (fun i hi=>.inl hi)) (fun ρ' a' w' sT=>hQ gM ρ' a' w' hK (sT.tP tW))
  ·rw[Nc];constructor
   ·intro hi;exact⟨hi,by rw[Array.getD_eq_getD_getElem?,Array.getElem?_replicate,if_pos hi];rfl⟩
   ·exact fun h=>h.1
  ·rw[Tw];exact List.pairwise_lt_range
  ·exfalso;rw[Array.getD_eq_getD_getElem?,Array.getElem?_replicate]at hj;split at hj <;> cases hj
end
end AI
namespace AI
open Go Go.RowKit
section
variable {P:Program} {E:Env} {X:Nat->Prop} {w0:Old}
def Lk(n0:Nat)(st:St)(p s i:Nat)(kv:KV):Prop :=
 kv=(.any,none)\/(bYQ 1000000 s=true/\aMN st (s%1000000)=some (i,kv.1)/\kv.2=none/\n0<=i)\/(∃n,kv=(.v (.one (.buf p n)),st.hp i)/\st.fr (s%1000000)=.v (.one (.buf i n)))\/(kv=(.v (.one (.ptr p 0)),st.hp i)/\st.fr (s%1000000)=.v (.one (.ptr i 0)))\/(kv=(st.fr (s%1000000),none)/\∀i∈refs (st.fr (s%1000000)),i<n0)
def tZ(s:Nat)(kv:KV):Bool:=kv.2.isSome||(bYQ 1000000 s&&(match kv.1 with | .any=>false |_=>true))
theorem aHE{st:St}{s i:Nat}{a:A}(h:aMN st s=some (i,a)):∃n sz f,st.fr s=.v (.one (.buf i n))/\a=.v (.one (.rows sz n f))/\toD st.hp (.v (.one (.buf i n)))=some (.rows sz n f):=by
 unfold aMN at h;split at h
 ·rename_i i' n hf;split at h
  ·rename_i e cs hb;split at h
   ·rename_i hc;cases h;refine⟨n,_,_,hf,rfl,?_⟩;simp only[toD,hb];rw[if_pos hc]
   ·cases h
  ·cases h
 ·cases h
theorem Gu(n0:Nat)(st:St):∀(keep:List Nat) (p:Nat) (seen:List Nat),(∀x,x<n0->x∈seen)->∃Tu:Nat->Nat,(canonGo n0 st keep p seen).length=keep.length /\
  (∀(k s:Nat),keep[k]?=some s->∃kv,(canonGo n0 st keep p seen)[k]?=some kv/\Lk n0 st (p+k) s (Tu k) kv/\(tZ s kv=true->Tu k ∉ seen)) /\
  (∀(k k' s s':Nat) (kv Pn:KV),keep[k]?=some s->keep[k']?=some s'->(canonGo n0 st keep p seen)[k]?=some kv->(canonGo n0 st keep p seen)[k']?=some Pn->tZ s kv=true->tZ s' Pn=true->Tu k=Tu k'->k=k')
 | [],p,seen,_=>⟨fun _=>0,rfl,fun k s h=>by simp at h,fun k k' s s' kv Pn h=>by simp at h⟩
 |s :: keep,p,seen,hn=>by
  have core:∀(kv:KV) (i:Nat) (Mb:List Nat),(∀x∈seen,x∈Mb)->(tZ s kv=true->i∈Mb/\i ∉ seen)->Lk n0 st p s i kv->canonGo n0 st (s :: keep) p seen=kv :: canonGo n0 st keep (p+1) Mb ->
    ∃Tu:Nat->Nat,(canonGo n0 st (s :: keep) p seen).length=(s :: keep).length /\
    (∀(k s':Nat),(s :: keep)[k]?=some s'->∃kv,(canonGo n0 st (s :: keep) p seen)[k]?=some kv/\Lk n0 st (p+k) s' (Tu k) kv/\(tZ s' kv=true->Tu k ∉ seen)) /\
    (∀(k k' s1 s2:Nat) (kv Pn:KV),(s :: keep)[k]?=some s1->(s :: keep)[k']?=some s2->(canonGo n0 st (s :: keep) p seen)[k]?=some kv->(canonGo n0 st (s :: keep) p seen)[k']?=some Pn->tZ s1 kv=true->tZ s2 Pn=true->Tu k=Tu k'->k=k'):=by
   intro kv i Mb bOP hi bKY heq;obtain⟨Tu,h1,h2,h3⟩:=Gu n0 st keep (p+1) Mb (fun x hx=>bOP x (hn x hx));rw[heq];have aVA:∀(k s':Nat) (Pn:KV),keep[k]?=some s'->(canonGo n0 st keep (p+1) Mb)[k]?=some Pn->tZ s' Pn=true->Tu k ∉ Mb:=by
    intro k s' Pn sT hk hs;obtain⟨bIV,e1,_,e3⟩:=h2 k s' sT;rw[hk]at e1;cases e1;exact e3 hs
   refine⟨fun k=>if k=0 then i else Tu (k-1),by simp[h1],?_,?_⟩
   ·intro k s' hk
    match k with
    |0=>simp at hk;subst hk;exact⟨kv,rfl,by simpa using bKY,fun h=>by simpa using (hi h).2⟩
    |k+1 =>
     simp at hk;obtain⟨Pn,e1,e2,e3⟩:=h2 k s' hk;refine⟨Pn,by simpa using e1,?_,fun h=>?_⟩
     ·simp only[cBK,if_false,cBL];rw[show p+(k+1)=p+1+k by omega];exact e2
     ·simp only[cBK,if_false,cBL];exact fun hm=>e3 h (bOP _ hm)
   ·intro k k' s1 s2 bOA bIV Zq Pp hk Xt hs sT he
    match k,k' with
    |0,0=>rfl
    |0,k'+1 =>
     simp at hk Xt Zq Pp;subst hk;subst Zq;simp at he;exact absurd (hi hs).1 (by rw[he];exact aVA k' s2 bIV Pp Xt sT)
    |k+1,0 =>
     simp at hk Xt Zq Pp;subst Xt;subst Pp;simp at he;exact absurd (hi sT).1 (by rw[<-he];exact aVA k s1 bOA Zq hk hs)
    |k+1,k'+1 =>
     simp at hk Xt he Zq Pp;have:=h3 k k' s1 s2 bOA bIV Zq Pp hk Xt hs sT he;omega
  have Gl:canonGo n0 st (s :: keep) p seen=(.any,none) :: canonGo n0 st keep (p+1) seen->_:=core (.any,none) 0 seen (fun _ h=>h) (fun h=>by simp[tZ]at h) (.inl rfl);cases hz:bYQ 1000000 s with
  |true =>
   cases hv:aMN st (s%1000000)with
   |none=>exact Gl (by simp only[canonGo,hz,cond_true,hv])
   |some q =>
    obtain⟨i,a⟩:=q;cases Zp:seen.elem i with
    |true=>exact Gl (by simp only[canonGo,hz,cond_true,hv,Zp])
    |false =>
     have Ig:i ∉ seen:=by simpa using Zp
     exact core (a,none) i (i :: seen) (fun _ h=>bZG _ h) (fun _=>⟨bYU ..,Ig⟩) (.inr (.inl ⟨hz,hv,rfl,Nat.le_of_not_lt fun jM=>Ig (hn i jM)⟩)) (by simp only[canonGo,hz,cond_true,hv,Zp,cond_false])
  |false =>
  have aGO:∀a,tZ s (a,none)=true->False:=by
   intro a h;simp[tZ,hz]at h
  cases hf:st.fr (s%1000000)with
  |any=>exact Gl (by simp only[canonGo,hz,cond_false,hf])
  |Pm xs=>exact Gl (by simp only[canonGo,hz,cond_false,hf])
  |v x =>
   cases x with
   |agg cs=>exact core (.v (.agg cs),none) 0 seen (fun _ h=>h) (fun h=>(aGO _ h).elim) (.inr (.inr (.inr (.inr ⟨by rw[hf],by rw[hf];intro i hi;cases hi⟩)))) (by simp only[canonGo,hz,cond_false,hf])
   |one l =>
    cases l with
    |s x=>exact core (.v (.one (.s x)),none) 0 seen (fun _ h=>h) (fun h=>(aGO _ h).elim) (.inr (.inr (.inr (.inr ⟨by rw[hf],by rw[hf];intro i hi;cases hi⟩)))) (by simp only[canonGo,hz,cond_false,hf])
    |rows sz n f=>exact core (.v (.one (.rows sz n f)),none) 0 seen (fun _ h=>h) (fun h=>(aGO _ h).elim) (.inr (.inr (.inr (.inr ⟨by rw[hf],by rw[hf];intro i hi;cases hi⟩)))) (by simp only[canonGo,hz,cond_false,hf])
    |Qj cs=>exact core (.v (.one (.Qj cs)),none) 0 seen (fun _ h=>h) (fun h=>(aGO _ h).elim) (.inr (.inr (.inr (.inr ⟨by rw[hf],by rw[hf];intro i hi;cases hi⟩)))) (by simp only[canonGo,hz,cond_false,hf])
    |Uy k ns=>exact core (.v (.one (.Uy k ns)),none) 0 seen (fun _ h=>h) (fun h=>(aGO _ h).elim) (.inr (.inr (.inr (.inr ⟨by rw[hf],by rw[hf];intro i hi;cases hi⟩)))) (by simp only[canonGo,hz,cond_false,hf])
    |Ts i j=>exact Gl (by simp only[canonGo,hz,cond_false,hf])
    |view i off n =>
     cases Zp:bYY i n0 with
     |false=>exact Gl (by simp only[canonGo,hz,hf,Zp,cond_false])
     |true =>
      have jM:i<n0:=by rw[Nat.blt_eq]at Zp;exact Zp
      exact core (.v (.one (.view i off n)),none) 0 seen (fun _ h=>h) (fun h=>(aGO _ h).elim) (.inr (.inr (.inr (.inr ⟨by rw[hf],by rw[hf];intro j hj;simp[refs,refsV,refsL]at hj;omega⟩)))) (by simp only[canonGo,hz,cond_false,hf,Zp,cond_true])
    |buf i n =>
     cases Zp:seen.elem i with
     |true=>exact Gl (by simp only[canonGo,hz,cond_false,hf,Zp,cond_true])
     |false =>
      have Ig:i ∉ seen:=by simpa using Zp
      exact core (.v (.one (.buf p n)),st.hp i) i (i :: seen) (fun _ h=>bZG _ h) (fun _=>⟨bYU ..,Ig⟩) (.inr (.inr (.inl ⟨n,rfl,hf⟩))) (by simp only[canonGo,hz,hf,Zp,cond_false])
    |ptr i off =>
     match off with
     |0 =>
      cases Zp:seen.elem i with
      |true=>exact Gl (by simp only[canonGo,hz,cond_false,hf,Zp,cond_true])
      |false =>
       have Ig:i ∉ seen:=by simpa using Zp
       exact core (.v (.one (.ptr p 0)),st.hp i) i (i :: seen) (fun _ h=>bZG _ h) (fun _=>⟨bYU ..,Ig⟩) (.inr (.inr (.inr (.inl ⟨rfl,hf⟩)))) (by simp only[canonGo,hz,hf,Zp,cond_false])
     |off+1=>exact Gl (by simp only[canonGo,hz,cond_false,hf])
theorem Jh(t:Nat):∀(keep:List Nat) (l:List KV),slotGo t keep l=.any\/∃(k s:Nat) (kv:KV),keep[k]?=some s/\t=s%1000000/\l[k]?=some kv/\slotGo t keep l=kv.1
 | [],_=>.inl (by simp[slotGo])
 |_ :: _,[]=>.inl (by simp[slotGo])
 |s :: keep,kv :: l=>by
  simp only[slotGo];cases hb:bYO t (s%1000000)with
  |true=>exact .inr ⟨0,s,kv,rfl,bZB hb,rfl,rfl⟩
  |false =>
   rcases Jh t keep l with h |⟨k,s',Pn,h1,h0,h2,h3⟩
   ·exact .inl h
   ·exact .inr ⟨k+1,s',Pn,by simpa using h1,h0,by simpa using h2,h3⟩
theorem Nx:∀(l:List KV) (i:Nat) (b:lO),blkGo i l=some b->∃kv,l[i]?=some kv/\kv.2=some b
 | [],i,b,h=>by simp[blkGo]at h
 |kv :: l,0,b,h=>⟨kv,rfl,h⟩
 |kv :: l,i+1,b,h=>by
  obtain⟨Pn,h1,h2⟩:=Nx l i b h;exact⟨Pn,by simpa using h1,h2⟩
theorem Rw:∀(l:List KV) (i:Nat) (kv:KV),l[i]?=some kv->blkGo i l=kv.2
 | [],i,kv,h=>by simp at h
 |bSX :: l,0,kv,h=>by simp at h;subst h;rfl
 |bSX :: l,i+1,kv,h=>Rw l i kv (by simpa using h)
theorem Jp(st:St):∀(n i:Nat),(canonIO st n i).length=n
 |0,_=>rfl
 |n+1,i=>by simp[canonIO,Jp st n]
theorem Jq(st:St):∀(n i k:Nat) (r:List KV),k<n->blkGo k (canonIO st n i ++ r)=st.hp (i+k)
 |0,_,_,_,h=>by omega
 |n+1,i,0,r,_=>rfl
 |n+1,i,k+1,r,h=>by
  simp only[canonIO,cAF,blkGo];rw[Jq st n (i+1) k r (by omega)];congr 1;omega
theorem Gt(st:St):∀(n i k:Nat) (r:List KV),blkGo (n+k) (canonIO st n i ++ r)=blkGo k r
 |0,_,k,r=>by simp[canonIO]
 |n+1,i,k,r=>by
  rw[show n+1+k=(n+k)+1 by omega];simp only[canonIO,cAF,blkGo];exact Gt st n (i+1) k r
theorem Is:∀{n i:Nat},i<n->i∈below n
 |n+1,i,h=>by
  unfold below
  by_cases hi:i=n
  ·subst hi;exact bYU ..
  ·exact bZG _ (Is (by omega))
theorem Ip{ρ:Nat->Nat}{al:Nat->Prop}{st:St}{a:Act}{w:World}(h:jX E X w0 ρ al st.fr st.hp a w)(keep:List Nat) :
  ∃ρ',jX E X w0 ρ' (fun i=>i<(mk E.n0 keep (canon E.n0 keep st)).n) (mk E.n0 keep (canon E.n0 keep st)).fr (mk E.n0 keep (canon E.n0 keep st)).hp a w:=by
 obtain⟨n0,aEP⟩:∃n0,n0=E.n0:=⟨_,rfl⟩;rw[<-aEP];obtain⟨Tu,h1,h2,h3⟩:=Gu n0 st keep n0 (below n0) (fun x hx=>Is hx);obtain⟨C,hC⟩:∃C,C=canonGo n0 st keep n0 (below n0):=⟨_,rfl⟩;have aSC:canon n0 keep st=canonIO st n0 0 ++ C:=by rw[hC];rfl
 rw[<-hC]at h1 h2 h3;rw[aSC];have aMA:(canonIO st n0 0 ++ C).drop n0=C:=by
  have:=cBF (l₁:=canonIO st n0 0) (l₂:=C);rwa [Jp]at this
 obtain⟨yS,Ub⟩:∃yS,yS=(mk n0 keep (canonIO st n0 0 ++ C)).hp:=⟨_,rfl⟩;rw[<-Ub];have Vv:∀q,q<n0->yS q=st.hp q:=fun q hq=>by
  rw[Ub];have:=Jq st n0 0 q C hq;rw[bYP]at this;exact this
 have Uc:∀k,yS (n0+k)=blkGo k C:=fun k=>by rw[Ub];exact Gt st n0 0 k C
 have bBM:∀t,(mk n0 keep (canonIO st n0 0 ++ C)).fr t=slotGo t keep C:=fun t=>by
  show slotGo t keep ((canonIO st n0 0 ++ C).drop n0)=_;rw[aMA]
 have hn:(mk n0 keep (canonIO st n0 0 ++ C)).n=n0+keep.length:=rfl;obtain⟨aIN,bEN⟩:∃aIN:Nat->Nat,aIN=fun q=>if q<n0 then q else Tu (q-n0):=⟨_,rfl⟩
 have aSD:∀q,q<n0->aIN q=q:=fun q hq=>by rw[bEN];simp only;rw[if_pos hq]
 have aLY:∀k,aIN (n0+k)=Tu k:=fun k=>by rw[bEN];simp only;rw[bI];congr 1;omega
 have aRU:∀(k:Nat) (b:lO),blkGo k C=some b->k<keep.length/\st.hp (Tu k)=some b/\n0<=Tu k/\∃kv,C[k]?=some kv/\kv.2=some b:=by
  intro q b hq;obtain⟨kv,hk,hb⟩:=Nx _ q b hq;have jM:q<keep.length:=by have:=bB hk;omega
  obtain⟨s,hs⟩:=bV jM;obtain⟨Pn,e1,e2,e3⟩:=h2 q s hs;rw[hk]at e1;cases e1;refine⟨jM,?_,?_,kv,hk,hb⟩
  ·rcases e2 with rfl |⟨_,_,h9,_⟩ |⟨n,rfl,_⟩ |⟨rfl,_⟩ |⟨rfl,_⟩
   ·cases hb
   ·rw[h9]at hb;cases hb
   ·exact hb
   ·exact hb
   ·cases hb
  ·have:=e3 (by unfold tZ;rw[hb];rfl);rcases bZC (Tu q) n0 with h4 |h4
   ·exact absurd (Is h4) this
   ·exact h4
 have Xu:∀(q:Nat) (b:lO),yS q=some b->st.hp (aIN q)=some b/\q<n0+keep.length:=by
  intro q b hq;rcases bZC q n0 with h4 |h4
  ·rw[Vv q h4]at hq;exact⟨by rw[aSD q h4];exact hq,by omega⟩
  ·obtain⟨k,rfl⟩:=bZS h4;rw[Uc]at hq;obtain⟨h5,h6,_⟩:=aRU k b hq;exact⟨by rw[aLY];exact h6,by omega⟩
 have uK:∀b,XO X (fun q=>ρ (aIN q)) yS b->XO X ρ st.hp b:=by
  rintro b (hb |⟨q,bl,h4,h5⟩)
  ·exact .inl hb
  ·exact .inr ⟨aIN q,bl,(Xu q bl h4).1,h5⟩
 have hl:jB (XO X ρ st.hp) w (XO X (fun q=>ρ (aIN q)) yS) w:=⟨bYN _,fun b _ hx=>⟨rfl,fun hb=>hx (uK b hb)⟩⟩;have key:∀t,zY (fun q=>ρ (aIN q)) yS (XO X (fun q=>ρ (aIN q)) yS) w (slotGo t keep C) (a.tmps.getD t undef)/\∀i∈refs (slotGo t keep C),i<n0+keep.length:=by
  intro t;rcases Jh t keep C with he |⟨k,s,kv,hk,bGV,bHD,he⟩
  ·rw[he];exact⟨trivial,by simp[refs]⟩
  ·rw[he];obtain⟨Pn,e1,e2,e3⟩:=h2 k s hk;rw[bHD]at e1;cases e1;have jM:=bB hk;have hr:=h.fr t;have bEW:=Rw _ k kv bHD;unfold Lk at e2;rw[<-bGV]at e2;rcases e2 with rfl |⟨hz,hfz,h9,bPZ⟩ |⟨n,rfl,hf⟩ |⟨rfl,hf⟩ |⟨rfl,hf⟩
   ·exact⟨trivial,by simp[refs]⟩
   ·obtain⟨n,sz,f,hf,ha,hd⟩:=aHE hfz;rw[hf]at hr;have aIS:tZ s kv=true:=by unfold tZ;rw[hz,ha];simp
    have bTT:=Hp h (u:=[(Tu k,none)]) (fun p hp=>by simp at hp;rw[hp]) hr (fun i hi=>by simp[refs,refsV,refsL]at hi;rw[hi];simp) hd;rw[ha];refine⟨oZ.later (d:=.rows sz n f) ⟨bYN _,fun b _ hx=>⟨rfl,fun hb=>hx ?_⟩⟩ bTT,by intro i hi;cases hi⟩;rcases hb with hb |⟨q,bl,h4,h5⟩
    ·exact .inl hb
    ·have h6:=Xu q bl h4;refine .inr ⟨aIN q,bl,?_,h5⟩;simp only[applyUps];rw[gK _ _ ?_]
     ·exact h6.1
     ·intro hq;rcases bZC q n0 with h7 |h7
      ·rw[aSD q h7]at hq;omega
      ·obtain⟨k',rfl⟩:=bZS h7;rw[Uc]at h4;obtain⟨h8,_,_,Pn,Xt,aLS⟩:=aRU k' bl h4;obtain⟨s',sT⟩:=bV h8;rw[aLY]at hq;have:=h3 k' k s' s Pn kv sT hk Xt bHD (by unfold tZ;rw[aLS];rfl) aIS hq;subst this;rw[bHD]at Xt;cases Xt;rw[h9]at aLS;cases aLS
   ·rw[hf]at hr;obtain⟨cap,hv,Dj,hc,aVI⟩:=hr;refine⟨⟨cap,by simp only[aLY];exact hv,Dj,fun blk k1 ns hb Jz=>?_,fun blk cs hb Jz=>?_⟩,?_⟩
    ·rw[Uc,bEW]at hb;have:=hc blk k1 ns hb Jz;simp only[aLY];exact this
    ·rw[Uc,bEW]at hb;have:=aVI blk cs hb Jz;simp only[aLY];exact this
    ·intro i hi;simp[refs,refsV,refsL]at hi;omega
   ·rw[hf]at hr;refine⟨?_,?_⟩
    ·show _=_;simp only[aLY];exact hr
    ·intro i hi;simp[refs,refsV,refsL]at hi;omega
   ·refine⟨zY.later (al:=fun i=>i<n0) hl (fun i hi=>⟨by simp only[aSD i hi],fun b' xO=>⟨b',by rw[<-Vv i hi];exact xO,sameShape.refl _,rfl⟩⟩) hf hr,fun i hi=>?_⟩;have:=hf i hi;omega
 refine⟨fun q=>ρ (aIN q),{ fr:=fun t=>by rw[bBM];exact(key t).1,sz:=h.sz,nod:=h.nod,blk:=?_,inj:=?_,alh:=?_,alr:=fun t i hi=>by rw[bBM]at hi;exact(key t).2 i hi,below:=h.below,x0:=h.x0,glob:=h.glob,mg:=h.mg,al0:=fun i hi=>by show i<n0+keep.length;omega,pK:=fun i hi=>by simp only[aSD i (by omega)];exact h.pK i hi }⟩
 ·intro q b hq;have hb:=(Xu q b hq).1;refine⟨?_,(h.blk _ b hb).2.later hl rfl⟩;rcases bZC q n0 with h4 |h4
  ·have:=(h.blk _ b hb).1;simp only[aSD q h4]at this ⊢;exact this
  ·obtain⟨k,rfl⟩:=bZS h4;rw[Uc]at hq;obtain⟨_,_,h6,_⟩:=aRU k b hq;exact .inl ((h.blk _ b hb).1.new (by rw[aLY];omega))
 ·intro q q' b b' hq aEN he;have hb:=(Xu q b hq).1;have xO:=(Xu q' b' aEN).1;have aSF:=h.inj _ _ b b' hb xO he;rcases bZC q n0 with h4 |h4
  ·rcases bZC q' n0 with h5 |h5
   ·rw[aSD q h4,aSD q' h5]at aSF;exact aSF
   ·obtain⟨k,rfl⟩:=bZS h5;rw[Uc]at aEN;obtain⟨_,_,h6,_⟩:=aRU k b' aEN;rw[aSD q h4,aLY]at aSF;omega
  ·obtain⟨k,rfl⟩:=bZS h4;rw[Uc]at hq;obtain⟨_,_,h6,kv,hk,bUN⟩:=aRU k b hq;rcases bZC q' n0 with h5 |h5
   ·rw[aSD q' h5,aLY]at aSF;omega
   ·obtain⟨k',rfl⟩:=bZS h5;rw[Uc]at aEN;obtain⟨_,_,_,Pn,Xt,aLS⟩:=aRU k' b' aEN;rw[aLY,aLY]at aSF;obtain⟨s1,Zq⟩:=bV (l:=keep) (i:=k) (by have:=bB hk;omega);obtain⟨s2,Pp⟩:=bV (l:=keep) (i:=k') (by have:=bB Xt;omega);have:=h3 k k' s1 s2 kv Pn Zq Pp hk Xt (by unfold tZ;rw[bUN];rfl) (by unfold tZ;rw[aLS];rfl) aSF;omega
 ·intro q b hq;exact(Xu q b hq).2
def exitOf:Ex->Exit
 | .normal=>.normal
 | .exit id=>.exit id
 | .ret=>.ret
def KQ{R:Type}(E:Env)(X:Nat->Prop)(w0:Old)(K:Ex->St->Option R)(Q:Exit->Act->World->Prop)(r:R):Prop :=
 ∀(ex:Ex) (st:St) (ρ:Nat->Nat) (a:Act) (w:World),K ex st=some r->jX E X w0 ρ (fun i=>i<st.n) st.fr st.hp a w->Q (exitOf ex) a w
theorem Bh{R:Type}{c:Code}{keep:List Nat}{r:R}{Q:Exit->Act->World->Prop}{K:Ex->St->Option R}(bLW:KQ E X w0 K Q r)
  (ih:∀(st:St) (K:Ex->St->Option R) (Q:Exit->Act->World->Prop) (ρ:Nat->Nat) (a:Act) (w:World),jX E X w0 ρ (fun i=>i<st.n) st.fr st.hp a w->evalCode E c st K=some r->KQ E X w0 K Q r->c.wp P Q a w) :
  ∀(n:Nat) (l:List KV) (ρ:Nat->Nat) (a:Act) (w:World),iter (fun rec l=>evalCode E c (mk E.n0 keep l) fun ex gM=>match ex with
    | .normal=>rec (canon E.n0 keep gM)
    | .exit i=>K (.exit i) gM
    | .ret=>K .ret gM) n l=some r->jX E X w0 ρ (fun i=>i<(mk E.n0 keep l).n) (mk E.n0 keep l).fr (mk E.n0 keep l).hp a w->Code.rounds P c Q n a w
 |0,l,ρ,a,w,h,_=>by cases h
 |n+1,l,ρ,a,w,h,hs=>by
  rw[rounds_succ];refine ih (mk E.n0 keep l) _ _ ρ a w hs h ?_;intro ex gM ρ' a' w' he sT;cases ex with
  |normal =>
   obtain⟨ρ2,Pp⟩:=Ip sT keep;exact Bh bLW ih n _ ρ2 a' w' he Pp
  |exit i=>exact bLW (.exit i) gM ρ' a' w' he sT
  |ret=>exact bLW .ret gM ρ' a' w' he sT
theorem aMO{α R:Type}{G:(α->Option R)->α->Option R}{x:α}{r:R}(h:fix G x=some r):∃n,iter G n x=some r:=by
 unfold fix at h;split at h
 ·rename_i hex;cases h;exact Classical.choose_spec hex
 ·cases h
theorem aBU(hT:qE P E.T)(hC:mD P E)(hm:P.follows .mixedOrders=true){R:Type}(r:R):∀(c:Code) (st:St) (K:Ex->St->Option R) (Q:Exit->Act->World->Prop) (ρ:Nat->Nat) (a:Act) (w:World),
  jX E X w0 ρ (fun i=>i<st.n) st.fr st.hp a w->evalCode E c st K=some r->KQ E X w0 K Q r->c.wp P Q a w:=by
 intro c
 induction c with
 |skip=>intro st K Q ρ a w hs he hK;exact wp_skip (hK .normal st ρ a w he hs)
 |label l=>intro st K Q ρ a w hs he hK;exact wp_label (hK .normal st ρ a w he hs)
 |exit id=>intro st K Q ρ a w hs he hK;exact wp_exit (hK (.exit id) st ρ a w he hs)
 |ret=>intro st K Q ρ a w hs he hK;exact wp_ret (hK .ret st ρ a w he hs)
 |region id ops draw =>
  intro st K Q ρ a w hs he hK;unfold evalCode at he;exact Sx hT hC hm hs he Q (fun gM ρ' a' w' hk sT=>hK .normal _ ρ' a' w' hk sT)
 |seq x y bGP bDE =>
  intro st K Q ρ a w hs he hK;unfold evalCode at he;refine wp_seq (bGP st _ _ ρ a w hs he ?_);intro ex gM ρ' a' w' hk sT;cases ex with
  |normal =>
   simp only at hk;split at hk
   ·rename_i keep _;obtain⟨ρ2,Pp⟩:=Ip sT keep;unfold Dc at hk;exact bDE _ K Q ρ2 a' w' Pp hk hK
   ·exact bDE gM K Q ρ' a' w' sT hk hK
  |exit i=>exact hK (.exit i) gM ρ' a' w' hk sT
  |ret=>exact hK .ret gM ρ' a' w' hk sT
 |cond c x y bGP bDE =>
  intro st K Q ρ a w hs he hK;unfold evalCode at he;split at he
  ·rename_i s;split at he
   ·rename_i t ht;have hr:=hs.fr s;rw[ht]at hr;have hv:a.eval (.tmp s)=.bool t:=hr.1;have e0:Co st.fr s (Dh (.bool t))=st.fr:=aCX st.fr s t ht;refine wp_cond hv ?_;cases t with
    |true=>simp only[cond_true,e0]at he;exact bGP _ K Q ρ a w hs he hK
    |false=>simp only[cond_false,e0]at he;exact bDE _ K Q ρ a w hs he hK
   ·cases he
  ·rename_i t;refine wp_cond (t:=t) rfl ?_;cases t with
   |true=>simp only[cond_true]at he;exact bGP _ K Q ρ a w hs he hK
   |false=>simp only[cond_false]at he;exact bDE _ K Q ρ a w hs he hK
  ·cases he
 |block id c ih =>
  intro st K Q ρ a w hs he hK;unfold evalCode at he;refine wp_block (ih st _ _ ρ a w hs he ?_);intro ex gM ρ' a' w' hk sT;cases ex with
  |normal=>exact hK .normal gM ρ' a' w' hk sT
  |ret=>exact hK .ret gM ρ' a' w' hk sT
  |exit i =>
   simp only[exitOf,Exit.inBlock];simp only at hk;cases hb:bYO i id with
   |true =>
    rw[hb]at hk;rw[if_pos (bZB hb)];exact hK .normal gM ρ' a' w' hk sT
   |false =>
    rw[hb]at hk;rw[if_neg (cAR hb)];exact hK (.exit i) gM ρ' a' w' hk sT
 |loop c ih =>
  intro st K Q ρ a w hs he hK;unfold evalCode at he;obtain⟨ρ2,Pp⟩:=Ip hs (E.keep (keyOf c));split at he
  ·rename_i n _;exact wp_loop_rounds n (Bh hK ih n _ ρ2 a w he Pp)
  ·obtain⟨n,hn⟩:=aMO he;exact wp_loop_rounds n (Bh hK ih n _ ρ2 a w hn Pp)
 |rangeFunc f ps x y _ _=>intro st K Q ρ a w hs he hK;unfold evalCode at he;cases he
 |scope c ih =>
  intro st K Q ρ a w hs he hK;unfold evalCode at he;refine wp_scope_straight (ih st K _ ρ a w hs he ?_);intro ex gM ρ' a' w' hk sT;have:=hK ex gM ρ' a' w' hk sT;cases ex <;> exact this
 |goto l=>intro st K Q ρ a w hs he hK;unfold evalCode at he;cases he
 |refuse bNN=>intro st K Q ρ a w hs he hK;unfold evalCode at he;cases he
end
end AI
end Go.Proofs.YtcnlagnipklcmaaGreatDoor
end
