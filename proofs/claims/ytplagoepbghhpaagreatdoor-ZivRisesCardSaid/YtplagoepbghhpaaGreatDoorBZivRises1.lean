/- Contracts. -/
import Derived.WalkKit
import Derived.Laws.CopyOwn
import Derived.LoopN
import Derived.Laws.StructEq
import Derived.Scope
set_option linter.unusedVariables false
set_option linter.unusedSimpArgs false
noncomputable section
open Go.IntKind(i8 i16 i32 i64 u8 u16 u32 u64)
open List renaming map_cons->bYS,getElem?_map->bYX,getElem?_take_of_lt->bYY,mem_cons_self->bZA,mem_of_getElem?->bZC,mem_cons_of_mem->bZE,getElem?_drop->bZG,getElem?_eq_getElem->bZK,mem_singleton->bZL,map_nil->bZM,map_toArray->bZO,getElem?_of_mem->bZT,map_append->bZU,mem_append->bZW,length_append->bZX,getElem?_append_left->bZZ,getElem?_append_right->cAA,mem_cons->cAB,mapM_cons->cAC,map_congr_left->cAE,range->cAG,length_map->cAH,size_toArray->cAJ,take_left->cAK,cons_append->cAM,getD->cAN,append_assoc->cAO,getElem?_eq_none->cAP,getElem?_cons_succ->cAQ,Pairwise->cAS,mem_range->cAV,replicate->cAW,eq_nil_of_length_eq_zero->cBI,length_take->cBJ,mem_append_right->cBK,drop_left->cBL,flatMap_def->cBP
open Nat renaming le_refl->bYT,beq->bYU,zero_add->bYV,ble->bYW,mul_one->bZD,blt->bZF,eq_of_beq_eq_true->bZI,lt_or_ge->bZJ,add_mul->bZN,le_trans->bZP,lt_of_lt_of_le->bZQ,add_zero->bZR,exists_eq_add_of_le->bZY,mul_le_mul_right->cAI,le_of_ble_eq_true->cAR,ne_of_beq_eq_false->cAX,le_mul_of_pos_right->cBC,mul_le_mul_left->cBH,le_of_not_lt->cBN,add_one_ne_zero->cBR,add_sub_cancel->cBS
open Bool renaming and_eq_true->bYZ,not_eq_true'->cAD,or_eq_true->cAF,not_true->cAT,false_or->cAU
open Option renaming bind_assoc->bZB,map_some->bZH,map_eq_some_iff->bZV,bind_some->cAL,bind_eq_bind->cAY,pure_def->cAZ,bind_eq_some_iff->cBA,map_none->cBE,getD_some->cBQ
open Int renaming mul_le_mul_of_nonneg_right->cBD
namespace Go.Proofs.YtplagoepbghhpaaGreatDoor
theorem aW{α:Sort _}{c:Prop}[Decidable c]{a b:α}(h:c:=by omega):ite c a b=a:=if_pos h
theorem aP{α:Sort _}{c:Prop}[Decidable c]{a b:α}(h:¬c:=by omega):ite c a b=b:=if_neg h
theorem cZ{a n:Nat}(h:0<a:=by omega):0<a^n:=Nat.pow_pos h
theorem iC{b m n:Nat}(h:0<b:=by omega)(h':m<=n:=by omega):b^m<=b^n:=Nat.pow_le_pow_right h h'
namespace M
open Go
theorem Ja(n:Int):i64.wrap n=if n%18446744073709551616>=9223372036854775808 then n%18446744073709551616-18446744073709551616 else n%18446744073709551616:=by
 show(if(true&&decide (n%18446744073709551616>=9223372036854775808))=true then n%18446744073709551616-18446744073709551616 else n%18446744073709551616)=_;simp only[Bool.true_and,decide_eq_true_eq]
theorem wrap_i64{n:Int}(h:-9223372036854775808<=n:=by omega)(h':n<9223372036854775808:=by omega):i64.wrap n=n:=by
 rw[Ja];split <;> omega
theorem fY(n:Int):u64.wrap n=n%18446744073709551616:=by
 show(if(false&&decide (n%18446744073709551616>=9223372036854775808))=true then n%18446744073709551616-18446744073709551616 else n%18446744073709551616)=_;simp
theorem wrap_u64{n:Int}(h:0<=n:=by omega)(h':n<18446744073709551616:=by omega):u64.wrap n=n:=by
 rw[fY];omega
end M
namespace AI
open Go Go.RowKit
def leB:Int->Int->Bool
 | .ofNat m,.ofNat n=>bYW m n
 | .negSucc _,.ofNat _=>true
 | .ofNat _,.negSucc _=>false
 | .negSucc m,.negSucc n=>bYW n m
theorem Lj(a b:Int):leB a b=true↔a<=b:=by
 cases a <;> cases b <;> simp only[leB,Nat.ble_eq,Bool.false_eq_true,true_iff,false_iff,Int.ofNat_eq_natCast] <;> omega
instance (priority:=2000) decLeI (a b:Int):Decidable (a<=b):=match h:leB a b with
 |true=>isTrue ((Lj a b).1 h)
 |false=>isFalse fun h'=>by rw[(Lj a b).2 h']at h;cases h
instance (priority := 2000) decLtI (a b : Int) : Decidable (a < b) := match h : leB b a with
  | true => isFalse fun h' => by have := (Lj b a).1 h; omega
  | false => isTrue (by have h1 : ¬ b ≤ a := fun h' => by rw [(Lj b a).2 h'] at h; cases h
                        omega)
inductive S where
 |sc (v:Value)
 |ints (k:IntKind) (ns:List Int)
 |bot
 |pt (x:Value)
 |Vh (f:FuncId) (xs:List Value)
inductive L where
 |s (x:S)
 |rows (sz n:Nat) (f:Nat->List S)
 |Qn (cs:List S)
 |Vo (k:IntKind) (ns:List Int)
 |ptr (id off:Nat)
 |Ui (id i:Nat)
 |buf (id n:Nat)
 |view (id off n:Nat)
inductive V where
 |one (l:L)
 |agg (cs:List S)
inductive A where
 |v (x:V)
 |Lv (xs:List V)
 |any
inductive zO where
 |ints (k:IntKind) (ns:List Int)
 |cells (cs:List S)
structure kQ where
 e:TypeId
 cont:zO
structure St where
 fr:Nat->A
 hp:Nat->Option kQ
 n:Nat
inductive D where
 |s (x:S)
 |rows (sz n:Nat) (f:Nat->List S)
 |agg (cs:List S)
 |own (e:TypeId) (k:IntKind) (ns:List Int)
 |io (e:TypeId) (k:IntKind) (ns:List Int) (off n:Nat)
 |back (i off n:Nat)
inductive TK where
 |bool
 |int (k:IntKind)
 |float (k:FloatKind)
 |other
 |struct (fs:List (Nat×Nat×Bool))
 |arr (len qP:Nat) (eagg:Bool)
 |slice (elem:TypeId)
 |str
structure TI where
 size:Nat
 bytes:Nat
 zero:List Value
 kind:TK
def TK.isAgg:TK->Bool
 | .struct _=>true
 | .arr _ _ _=>true
 |_=>false
abbrev Df(v:Value):A:=.v (.one (.s (.sc v)))
abbrev Ck{α:Type}(f:Nat->α)(d:Nat)(a:α):Nat->α:=fun i=>bif bYU i d then a else f i
def bitsI0(op:BinOp)(k:IntKind)(x y:Int):Int :=
 match op with
 | .and=>k.wrap (BitVec.ofInt k.bits x &&& BitVec.ofInt k.bits y).toNat
 | .or=>k.wrap (BitVec.ofInt k.bits x |||BitVec.ofInt k.bits y).toNat
 | .xor=>k.wrap (BitVec.ofInt k.bits x ^^^ BitVec.ofInt k.bits y).toNat
 |_=>k.wrap (BitVec.ofInt k.bits x &&& ~~~(BitVec.ofInt k.bits y)).toNat
theorem Ze:∃f:BinOp->IntKind->Int->Int->Int,f=bitsI0:=⟨_,rfl⟩
def gN:BinOp->IntKind->Int->Int->Int:=Classical.choose Ze
theorem xX:gN=bitsI0:=Classical.choose_spec Ze
def binK{R:Type}(op:BinOp)(x y:Value)(K:Value->Option R):Option R :=
 match x,y with
 | .int k a,.int k' b =>
  match op with
  | .shl=>if b<0 then none else K (.int k (k.wrap (a*((2^(min b.toNat k.bits):Nat):Int))))
  | .shr=>if b<0 then none else K (.int k (a/((2^(min b.toNat k.bits):Nat):Int)))
  | .add=>if k=k' then K (.int k (k.wrap (a+b)))else none
  | .sub=>if k=k' then K (.int k (k.wrap (a-b)))else none
  | .mul=>if k=k' then K (.int k (k.wrap (a*b)))else none
  | .quo=>if k=k' then(if b=0 then none else K (.int k (k.wrap (a.tdiv b))))else none
  | .rem=>if k=k' then(if b=0 then none else K (.int k (a.tmod b)))else none
  | .and=>if k=k' then K (.int k (gN .and k a b))else none
  | .or=>if k=k' then K (.int k (gN .or k a b))else none
  | .xor=>if k=k' then K (.int k (gN .xor k a b))else none
  | .andNot=>if k=k' then K (.int k (gN .andNot k a b))else none
  | .eql=>if k=k' then K (.bool (a==b))else none
  | .neq=>if k=k' then K (.bool (a !=b))else none
  | .lss=>if k=k' then K (.bool (decide (a<b)))else none
  | .leq=>if k=k' then K (.bool (decide (a<=b)))else none
  | .gtr=>if k=k' then K (.bool (decide (b<a)))else none
  | .geq=>if k=k' then K (.bool (decide (b<=a)))else none
 | .float k a,.float k' b =>
  match op with
  | .add=>if k=k' then(k.format.add a b).bind fun r=>K (.float k r)else none
  | .sub=>if k=k' then(k.format.sub a b).bind fun r=>K (.float k r)else none
  | .mul=>if k=k' then(k.format.mul a b).bind fun r=>K (.float k r)else none
  | .quo=>if k=k' then(k.format.div a b).bind fun r=>K (.float k r)else none
  | .eql=>if k=k' then K (.bool (k.format.order a b==some .eq))else none
  | .neq=>if k=k' then K (.bool (k.format.order a b !=some .eq))else none
  | .lss=>if k=k' then K (.bool (k.format.order a b==some .lt))else none
  | .leq=>if k=k' then K (.bool (k.format.order a b==some .lt||k.format.order a b==some .eq))else none
  | .gtr=>if k=k' then K (.bool (k.format.order a b==some .gt))else none
  | .geq=>if k=k' then K (.bool (k.format.order a b==some .gt||k.format.order a b==some .eq))else none
  |_=>none
 | .bool a,.bool b =>
  match op with
  | .eql=>K (.bool (a==b))
  | .neq=>K (.bool (a !=b))
  |_=>none
 |_,_=>none
def boolT(t:Option TI)(a:Value):Bool:=match a with
 | .bool _=>match t with
  |some ⟨_,_,_,.bool⟩=>true
  |_=>false
 |_=>true
def unK{R:Type}(op:UnOp)(x:Value)(K:Value->Option R):Option R :=
 match op,x with
 | .neg,.int k n=>K (.int k (k.wrap (0-n)))
 | .xor,.int k n=>K (.int k (gN .xor k (if k.signed then -1 else k.max) n))
 | .neg,.float k b=>K (.float k (Op.negFloat k b))
 | .not,.bool b=>K (.bool (!b))
 |_,_=>none
def convK{R:Type}(dst:TK)(x:Value)(K:Value->Option R):Option R :=
 match dst,x with
 | .int k,.int _ n=>K (.int k (k.wrap n))
 | .float k,.int _ n=>K (.float k (k.nearest n))
 | .int k,.float s b=>((s.decode b).toInt .zero).bind fun n=>if k.min<=n/\n<=k.max then K (.int k n)else none
 | .float k,.float s b=>if s=k then K (.float k b)else none
 |_,_=>none
def refsL:L->List Nat
 | .ptr id _=>[id]
 | .Ui id _=>[id]
 | .buf id _=>[id]
 | .view id _ _=>[id]
 |_=>[]
def refsV:V->List Nat
 | .one l=>refsL l
 | .agg _=>[]
def refs:A->List Nat
 | .v x=>refsV x
 | .Lv xs=>xs.flatMap refsV
 | .any=>[]
def cellsOf(hp:Nat->Option kQ):A->Option (List S×List (Nat×Option kQ))
 | .v (.agg cs)=>some (cs,[])
 | .v (.one (.s x))=>some ([x],[])
 | .v (.one (.buf id _))=>match hp id with
  |some ⟨_,.ints k ns⟩=>some ([.ints k ns],[(id,none)])
  |_=>none
 | .v (.one (.view id off n))=>match hp id with
  |some ⟨_,.ints k ns⟩=>some ([.ints k ((ns.drop off).take n)],[(id,none)])
  |_=>none
 |_=>none
def toD(hp:Nat->Option kQ):A->Option D
 | .v (.agg cs)=>some (.agg cs)
 | .v (.one (.s x))=>some (.s x)
 | .v (.one (.rows sz n f))=>some (.rows sz n f)
 | .v (.one (.buf id n))=>match hp id with
  |some ⟨_,.ints k ns⟩=>some (.s (.ints k ns))
  |some ⟨_,.cells cs⟩=>if n*(cs.length/n)=cs.length/\0<n then some (.rows (cs.length/n) n fun i=>(cs.drop (i*(cs.length/n))).take (cs.length/n))else none
  |none=>none
 | .v (.one (.view id off n))=>match hp id with
  |some ⟨_,.ints k ns⟩=>some (.s (.ints k ((ns.drop off).take n)))
  |_=>none
 |_=>none
def setAt(cs:List S)(off:Nat)(new:List S):List S:=cs.take off ++ (new ++ cs.drop (off+new.length))
def fillK{R:Type}(hp:Nat->Option kQ)(place:Nat->Option (Nat×Nat))(ev:Operand->A):List (Nat×Operand)->List S->List (Nat×Option kQ)->(List S->List (Nat×Option kQ)->Option R)->Option R
 | [],cs,aQP,K=>K cs aQP
 | (i,x) :: rest,cs,aQP,K =>
  match place i,cellsOf hp (ev x)with
  |some (off,size),some (new,u)=>if new.length=size/\off+new.length<=cs.length then fillK hp place ev rest (setAt cs off new) (aQP ++ u) K else none
  |_,_=>none
def partOf(ti:TI)(cs:List S)(off:Nat):Option V :=
 if _g:ti.kind.isAgg=true then(if _h:off+ti.size<=cs.length then some (.agg ((cs.drop off).take ti.size))else none)
 else match cs[off]? with
  |some c=>some (.one (.s c))
  |none=>none
def allInts(k:IntKind):List S->Option (List Int)
 | []=>some []
 | .sc (.int k' n) :: r=>if _h:k=k' then(allInts k r).map (n :: ·)else none
 |_ :: _=>none
def intsOf(hp:Nat->Option kQ)(k:IntKind):A->Option (List Int)
 | .v (.one (.s (.ints k' ns)))=>if _h:k=k' then some ns else none
 | .v (.one (.s (.sc (.slice none 0 0))))=>some []
 | .v (.one (.buf id _))=>match hp id with
  |some ⟨_,.ints k' ns⟩=>if _h:k=k' then some ns else none
  |_=>none
 | .v (.one (.view id off n))=>match hp id with
  |some ⟨_,.ints k' ns⟩=>if _h:k=k' then some ((ns.drop off).take n)else none
  |_=>none
 |_=>none
def room:Int:=8796093022208
def takeIn(keep:Bool)(id:Nat):D->V×List (Nat×Option kQ)
 | .s x=>(.one (.s x),[])
 | .rows sz n f=>(.one (.rows sz n f),[])
 | .agg cs=>(.agg cs,[])
 | .own e k ns=>bif keep then(.one (.buf id ns.length),[(id,some ⟨e,.ints k ns⟩)])else(.one (.s (.ints k ns)),[])
 | .io _ _ _ _ _=>(.one (.s .bot),[])
 | .back i off n=>(.one (.view i off n),[])
def takeAll(keep:Bool)(id:Nat):List D->List V×List (Nat×Option kQ)
 | []=>([],[])
 |d :: r=>((takeIn keep id d).1 :: (takeAll keep (id+1) r).1,(takeIn keep id d).2 ++ (takeAll keep (id+1) r).2)
def Kp:S->Bool
 | .ints _ _=>true
 | .bot=>true
 | .pt _=>true
 | .Vh _ _=>true
 | .sc (.slice (some _) _ _)=>true
 |_=>false
def shares:D->Bool
 | .s x=>Kp x
 | .rows _ _ _=>true
 | .agg cs=>cs.any Kp
 | .own _ _ _=>false
 | .io _ _ _ _ _=>true
 | .back _ _ _=>false
structure Env where
 T:TypeId->Option TI
 C:FuncId->List D->Option (Prop×List D)
 ext:FuncId->List Value->Option (Prop×List Value)
 glob:Nat->Option (IntKind×List Int)
 nt:Nat
 own:List Nat
 keep:Nat->List Nat
 roll:Nat->Option Nat
 cut:Nat->Option (List Nat)
 n0:Nat:=0
 io:List Nat:=[]
 ioF:FuncId->List Nat:=fun _=>[]
 wide:Option IntKind:=none
 short:Bool:=false
def wideS(w:Option IntKind)(v:Value):S:=match w with
 |none=>.sc v
 |some k=>match v with
  | .slice none 0 0=>.ints k []
  |v=>.sc v
def evA(E:Env)(fr:Nat->A):Operand->A
 | .tmp t=>fr t
 | .const v=>if _h:v.oneCell'=true then Df v else .any
 | .global g=>match E.glob g with
  |some (k,ns)=>.v (.one (.Vo k ns))
  |none=>.any
 | .func f=>Df (.func (.func f) #[] #[])
def funOf:A->Option FuncId
 | .v (.one (.s (.sc (.func (.func f) ⟨[]⟩ ⟨[]⟩))))=>some f
 |_=>none
def cloOf:A->Option (FuncId×List Value)
 | .v (.one (.s (.Vh f xs)))=>some (f,xs)
 |_=>none
abbrev bSL(x:Value):A:=.v (.one (.s (.pt x)))
abbrev qR:=List (Nat×Option kQ)
def capsOf(hp:Nat->Option kQ):List A->Option (List Value×qR)
 | []=>some ([],[])
 | .v (.one (.ptr i 0)) :: r=>match hp i,capsOf hp r with
  |some ⟨_,.cells [.sc x]⟩,some (xs,u)=>some (x :: xs,(i,none) :: u)
  |_,_=>none
 |_=>none
def bndA(d:Int):Option A->Option Int
 |none=>some d
 |some (.v (.one (.s (.sc (.int _ n)))))=>some n
 |_=>none
def sliceK{R:Type}(len:Nat)(lo hi mx:Option A)(K:Nat->Nat->Option R):Option R :=
 match bndA 0 lo,bndA len hi,mx with
 |some l,some h,none=>if 0<=l/\l<=h/\h<=len then K l.toNat h.toNat else none
 |some l,some h,some mx=>match hi,bndA len (some mx)with
  |some _,some m=>if 0<=l/\l<=h/\h<=m/\m<=len then K l.toNat h.toNat else none
  |_,_=>none
 |_,_,_=>none
abbrev aB{R:Type}(b:Bool)(x y:Option R):Option R:=bif b then x else y
def splitN{R:Type}(n:Int):Nat->Nat->(Nat->Option R)->Option R
 |0,_,_=>none
 |m+1,j,K=>aB (decide (n=(j:Int))) (K j) (splitN n m (j+1) K)
def idxK{R:Type}(hp:Nat->Option kQ)(t:TI)(qP:Nat)(x:A)(n:Int)(K:A->Option R):Option R :=
 match x with
 | .v (.one (.s (.ints k ns)))=>if qP=1 then(if 0<=n/\n<(ns.length:Int)then K (.v (.one (.Qn [.sc (.int k (ns.getD n.toNat 0))])))else none)else none
 | .v (.one (.buf id m))=>match hp id with
  |some ⟨_,.ints _ _⟩=>if qP=1 then(if 0<=n/\n<(m:Int)then K (.v (.one (.Ui id n.toNat)))else none)else none
  |some ⟨_,.cells _⟩=>if 0<=n/\n<(m:Int)then K (.v (.one (.ptr id (n.toNat*qP))))else none
  |none=>none
 | .v (.one (.view id off m))=>match hp id with
  |some ⟨_,.ints _ _⟩=>if qP=1 then(if 0<=n/\n<(m:Int)then K (.v (.one (.Ui id (off+n.toNat))))else none)else none
  |_=>none
 | .v (.one (.rows sz m f))=>if sz=qP then(if 0<=n/\n<(m:Int)then K (.v (.one (.Qn (f n.toNat))))else none)else none
 | .v (.one (.ptr id off))=>match t.kind with
  | .arr len _ _=>bif bYW len 8 then splitN n len 0 (fun j=>K (.v (.one (.ptr id (off+j*qP)))))else if 0<=n/\n<(len:Int)then K (.v (.one (.ptr id (off+n.toNat*qP))))else none
  |_=>none
 | .v (.one (.Vo k ns))=>match t.kind with
  | .arr len _ _=>if ns.length=len/\qP=1 then(if 0<=n/\n<(len:Int)then K (.v (.one (.Qn [.sc (.int k (ns.getD n.toNat 0))])))else none)else none
  |_=>none
 |_=>none
def idxS{R:Type}(sh:Bool)(hp:Nat->Option kQ)(t:TI)(qP:Nat)(x:A)(n:Int)(K:A->Option R):Option R:=match sh,x with
 |true,.v (.one (.buf id m))=>match hp id with
  |some ⟨_,.cells cs⟩=>splitN n (cs.length/qP) 0 fun j=>idxK hp t qP (.v (.one (.buf id m))) (j:Int) K
  |_=>idxK hp t qP (.v (.one (.buf id m))) n K
 |_,x=>idxK hp t qP x n K
def intArg:A->Option (IntKind×Int)
 | .v (.one (.s (.sc (.int k n))))=>some (k,n)
 |_=>none
def foldMM(op:BinOp)(k:IntKind):Int->List A->Option Int
 |n,[]=>some n
 |n,.v (.one (.s (.sc (.int k' m)))) :: r=>if _h:k=k' then foldMM op k (match op with | .gtr=>if m>n then m else n |_=>if m<n then m else n) r else none
 |_,_=>none
def lenA:A->Option Nat
 | .v (.one (.s (.ints _ ns)))=>some ns.length
 | .v (.one (.s (.sc (.slice none 0 0))))=>some 0
 | .v (.one (.buf _ n))=>some n
 | .v (.one (.view _ _ n))=>some n
 | .v (.one (.rows _ n _))=>some n
 |_=>none
def argVals:List A->Option (List Value)
 | []=>some []
 | .v (.one (.s (.sc v))) :: r=>(argVals r).map (v :: ·)
 |_ :: _=>none
def Jb(s:ByteArray)(n:Int):Int:=match s[n.toNat]? with
 |some b=>b.toNat
 |none=>0
def bDA:List Value->A
 | [v]=>Df v
 |vs=>.Lv (vs.map fun v=>.one (.s (.sc v)))
def keepOf(E:Env)(o:Oper):Bool:=match o.dst with
 |some d=>E.own.contains d
 |none=>false
open Classical in
def aO {R:Type} (g:Prop) (a:Option R):Option R:=if g then a else none
def aC{α R:Type}(x:α)(k:α->Option R):Option R:=k x
theorem aH{α R:Type}(x:α)(k:α->Option R):aC x k=k x:=rfl
def shS{R:Type}(s:S)(K:S->Option R):Option R:=match s with
 | .sc (.int k n)=>aC n fun n=>K (.sc (.int k n))
 | .sc (.bool b)=>aC b fun b=>K (.sc (.bool b))
 | .sc (.float k b)=>aC b fun b=>K (.sc (.float k b))
 | .ints k ns=>aC ns fun ns=>K (.ints k ns)
 |s=>K s
def shCs{R:Type}:List S->(List S->Option R)->Option R
 | [],K=>K []
 |s :: r,K=>shS s fun s=>shCs r fun r=>K (s :: r)
def shD{R:Type}(d:D)(K:D->Option R):Option R:=match d with
 | .s x=>shS x fun x=>K (.s x)
 | .agg cs=>shCs cs fun cs=>K (.agg cs)
 | .own e k ns=>aC ns fun ns=>K (.own e k ns)
 | .io e k ns off n=>aC ns fun ns=>K (.io e k ns off n)
 |d=>K d
def shDs{R:Type}:List D->(List D->Option R)->Option R
 | [],K=>K []
 |d :: r,K=>shD d fun d=>shDs r fun r=>K (d :: r)
theorem aLP{R:Type}(s:S)(K:S->Option R):shS s K=K s:=by
 unfold shS;split <;> rfl
theorem aEC{R:Type}:∀(cs:List S) (K:List S->Option R),shCs cs K=K cs
 | [],_=>rfl
 |s :: r,K=>by unfold shCs;rw[aLP,aEC r]
theorem aXH{R:Type}(d:D)(K:D->Option R):shD d K=K d:=by
 unfold shD;split
 ·exact aLP _ _
 ·exact aEC _ _
 ·rfl
 ·rfl
 ·rfl
theorem Fg{R:Type}:∀(ds:List D) (K:List D->Option R),shDs ds K=K ds
 | [],_=>rfl
 |d :: r,K=>by unfold shDs;rw[aXH,Fg r]
def Qo(xs ys:List Nat):Bool:=xs.all fun x=>!(ys.elem x)
def nodup:List Nat->Bool
 | []=>true
 |x :: r=>!(r.elem x)&&nodup r
def toIO(hp:Nat->Option kQ):A->Option (Nat×D)
 | .v (.one (.buf id n))=>match hp id with
  |some ⟨e,.ints k ns⟩=>some (id,.io e k ns 0 n)
  |_=>none
 | .v (.one (.view id off n))=>match hp id with
  |some ⟨e,.ints k ns⟩=>some (id,.io e k ns off n)
  |_=>none
 |_=>none
def argsIO(ps:List Nat)(hp:Nat->Option kQ):Nat->List A->Option (List (Nat×Nat)×List D)
 |_,[]=>some ([],[])
 |i,a :: r=>bif ps.elem i then(match toIO hp a with
   |some (id,d)=>match argsIO ps hp (i+1) r with
    |some (us,ds)=>some ((i,id) :: us,d :: ds)
    |none=>none
   |none=>none)
  else(match toD hp a with
   |some d=>match argsIO ps hp (i+1) r with
    |some (us,ds)=>some (us,d :: ds)
    |none=>none
   |none=>none)
def pZ(ps:List Nat):Nat->List A->List Nat
 |_,[]=>[]
 |i,a :: r=>(bif ps.elem i then []else refs a) ++ pZ ps (i+1) r
def leqN:List Nat->List Nat->Bool
 | [],[]=>true
 |a :: r,b :: s=>bYU a b&&leqN r s
 |_,_=>false
def backIO:List (Nat×Nat)->List D->Option qR
 | [],[]=>some []
 | (_,id) :: us,.io e k ns _ _ :: ds=>match backIO us ds with
  |some u=>some ((id,some ⟨e,.ints k ns⟩) :: u)
  |none=>none
 |_,_=>none
def idAt:List (Nat×Nat)->Nat->Nat
 | [],_=>0
 |q :: us,p=>bif bYU q.1 p then q.2 else idAt us p
def reBack(us:List (Nat×Nat)):D->D
 | .back p off n=>.back (idAt us p) off n
 |d=>d
def callIO{R:Type}(E:Env)(ps:List Nat)(id:Nat)(keep:Bool)(f:FuncId)(args:List A)(hp:Nat->Option kQ)(K:A->qR->Option R):Option R :=
 match argsIO ps hp 0 args with
 |none=>none
 |some (us,ds)=>bif leqN (us.map (·.1)) ps&&(nodup (us.map (·.2))&&Qo (us.map (·.2)) (pZ ps 0 args))then
  match E.C f ds with
  |none=>none
  |some (g,rs) =>
   aO g (shDs rs fun rs=>bif bYW us.length rs.length&&bYW rs.length 8&&!((rs.take (rs.length-us.length)).any shares)then
   match backIO us (rs.drop (rs.length-us.length))with
   |none=>none
   |some ub =>
    let r:=takeAll keep id ((rs.take (rs.length-us.length)).map (reBack us))
    match r.1 with
    | [x]=>K (.v x) (ub ++ r.2)
    |xs=>K (.Lv xs) (ub ++ r.2)
   else none)
  else none
def callK{R:Type}(E:Env)(id:Nat)(keep:Bool)(f:FuncId)(args:List A)(hp:Nat->Option kQ)(K:A->qR->Option R):Option R :=
 match args.mapM (toD hp)with
 |none=>none
 |some ds=>match E.C f ds with
  |none=>none
  |some (g,rs) =>
   aO g (shDs rs fun rs=>bif bYW rs.length 8 then
   let r:=takeAll keep id rs
   let aQP:=(bif rs.any shares then(args.flatMap refs).map fun i=>(i,none)else []) ++ r.2
   match r.1 with
   | [x]=>K (.v x) aQP
   |xs=>K (.Lv xs) aQP
   else none)
def appCells{R:Type}(n0 id:Nat)(e:TypeId)(te:TI)(s x:A)(hp:Nat->Option kQ)(K:A->qR->Option R):Option R:=match x with
 | .v (.one (.buf j m))=>match hp j with
  |some ⟨_,.cells new⟩=>if 0<m/\new.length=m*te.size then(match s with
   | .v (.one (.buf i n))=>match hp i with
    |some ⟨e',.cells cs⟩=>if e=e'/\n0<=i/\0<n/\cs.length=n*te.size/\(n+m)*te.bytes<=1073741824/\n+m<=1073741824 then K (.v (.one (.buf id (n+m)))) [(i,none),(id,some ⟨e,.cells (cs ++ new)⟩)]else none
    |_=>none
   | .v (.one (.s (.sc (.slice none 0 0))))=>if m*te.bytes<=1073741824/\m<=1073741824 then K (.v (.one (.buf id m))) [(id,some ⟨e,.cells new⟩)]else none
   |_=>none)else none
  |_=>none
 |_=>none
def builtinK{R:Type}(E:Env)(id:Nat)(b:Builtin)(args:List A)(yC:List TypeId)(hp:Nat->Option kQ)(K:A->qR->Option R):Option R :=
 match b,args,yC with
 | .len,[x],[t]=>match E.T t,lenA x with
  |some ⟨_,_,_,.slice _⟩,some n=>K (Df (.int .i64 n)) []
  |some ⟨_,_,_,.arr n _ _⟩,_=>K (Df (.int .i64 n)) []
  |_,_=>none
 | .max,.v (.one (.s (.sc (.int k n)))) :: r,_=>match foldMM .gtr k n r with
  |some m=>K (Df (.int k m)) []
  |none=>none
 | .min,.v (.one (.s (.sc (.int k n)))) :: r,_=>match foldMM .lss k n r with
  |some m=>K (Df (.int k m)) []
  |none=>none
 | .append,[s,x],[t,t']=>if t=t' then
   match E.T t with
   |some ⟨_,_,_,.slice e⟩=>match E.T e with
    |some ⟨1,bytes,_,.int k⟩=>if bytes<=8 then
      match s,intsOf hp k x with
      | .v (.one (.buf i _)),some ms=>match hp i with
       |some ⟨e',.ints k' ns⟩=>bif bZF i E.n0 then none else if e=e'/\k=k' then(if 0<ms.length/\((ns.length+ms.length:Nat):Int)<=room then K (.v (.one (.buf id (ns.length+ms.length)))) [(i,none),(id,some ⟨e,.ints k (ns ++ ms)⟩)]else none)else none
       |_=>none
      | .v (.one (.s (.sc (.slice none 0 0)))),some ms=>if 0<ms.length/\(ms.length:Int)<=room then K (.v (.one (.buf id ms.length))) [(id,some ⟨e,.ints k ms⟩)]else none
      |_,_=>none
     else none
    |some te=>appCells E.n0 id e te s x hp K
    |none=>none
   |_=>none
  else none
 | .copy,[d,s],[t,_] =>
   match E.T t with
   |some ⟨_,_,_,.slice e⟩=>match E.T e with
    |some ⟨1,_,_,.int k⟩ =>
      match d,intsOf hp k s with
      | .v (.one (.buf i n)),some ms=>match hp i with
       |some ⟨e',.ints k' ns⟩=>if k=k' then K (Df (.int .i64 (min ms.length n:Nat))) [(i,some ⟨e',.ints k (ms.take n ++ ns.drop (min ms.length n))⟩)]else none
       |_=>none
      | .v (.one (.view i off n)),some ms=>match hp i with
       |some ⟨e',.ints k' ns⟩=>if k=k'/\off+n<=ns.length then K (Df (.int .i64 (min ms.length n:Nat))) [(i,some ⟨e',.ints k (ns.take off ++ (ms.take n ++ ns.drop (off+min ms.length n)))⟩)]else none
       |_=>none
      |_,_=>none
    |_=>none
   |_=>none
 |_,_,_=>none
inductive EK where
 |int (k:IntKind)
 |bool
 |float (k:FloatKind)
def Fu:List Value->Option (List EK)
 | []=>some []
 | .int k _ :: r=>(Fu r).map (.int k :: ·)
 | .bool _ :: r=>(Fu r).map (.bool :: ·)
 | .float k _ :: r=>(Fu r).map (.float k :: ·)
 |_=>none
def yK(ti:TI):Option (List EK):=match ti.kind with
 | .struct fs=>if(fs.all fun f=>bYU f.2.1 1&&!f.2.2)=true then Fu ti.zero else none
 |_=>none
def eqCell:EK->S->S->Option Bool
 | .int k,.sc (.int k1 a),.sc (.int k2 b)=>if k1=k/\k2=k then some (a==b)else none
 | .bool,.sc (.bool a),.sc (.bool b)=>some (a==b)
 | .float k,.sc (.float k1 a),.sc (.float k2 b)=>if k1=k/\k2=k then some (k.format.order a b==some .eq)else none
 |_,_,_=>none
def eqInts:List EK->List S->List S->Option Bool
 | [],[],[]=>some true
 |k :: ks,c :: r,d :: r'=>match eqCell k c d with
  |some p=>(eqInts ks r r').map fun q=>p&&q
  |none=>none
 |_,_,_=>none
def eqAgg(t:Option TI)(cs ds:List S):Option Bool:=match t with
 |some ti=>match yK ti with
  |some ks=>eqInts ks cs ds
  |none=>none
 |none=>none
def aZQ:List S->Option IntKind
 | .sc (.int k _) :: _=>some k
 |_=>none
def pickC(len m:Nat)(cs:List S):Option S:=match aZQ cs with
 |some k=>match allInts k cs with
  |some ns=>bif bYU ns.length len then some (.sc (.int k (ns.getD m 0)))else cs[m]?
  |none=>cs[m]?
 |none=>cs[m]?
def aYB(len qP n:Nat)(cs:List S):Option S:=bif bYU qP 1 then pickC len n cs else cs[n*qP]?
theorem Zm{k:IntKind}{cs:List S}:∀{ns:List Int},allInts k cs=some ns->∀m,m<ns.length->cs[m]?=some (.sc (.int k (ns.getD m 0))):=by
 induction cs with
 |nil=>intro ns h m hm;cases h;simp at hm
 |cons c r ih =>
  intro ns h m hm;unfold allInts at h;split at h
  ·rename_i heq;cases heq
  ·rename_i k' n r' heq;cases heq;split at h
   ·rename_i hk;subst hk;obtain⟨rs,hr,rfl⟩:=Option.map_eq_some_iff.1 h;cases m with
    |zero=>rfl
    |succ m=>simpa using ih hr m (by simpa using hm)
   ·cases h
  ·cases h
theorem aSX{len qP:Nat}{n:Int}(cs:List S)(h:0<=n/\n<(len:Int)):aYB len qP n.toNat cs=cs[n.toNat*qP]?:=by
 unfold aYB;cases he:bYU qP 1 with
 |false=>rfl
 |true =>
  have:=bZI he;subst this;rw[cond_true,bZD];unfold pickC;split
  ·rename_i k _;split
   ·rename_i ns aTA;cases hl:bYU ns.length len with
    |false=>rfl
    |true =>
     have:=bZI hl;rw[cond_true,Zm aTA n.toNat (by omega)]
   ·rfl
  ·rfl
def effK{R:Type}(E:Env)(id:Nat)(o:Oper)(ev:Operand->A)(hp:Nat->Option kQ)(K:A->qR->Option R):Option R :=
 match o.op with
 | .move x=>K (ev x) []
 | .assign x=>K (ev x) []
 | .pick c a b=>match ev c with
  | .v (.one (.s (.sc (.bool t))))=>match ev a,ev b with
   | .v (.one (.s (.sc (.bool p)))),.v (.one (.s (.sc (.bool q))))=>K (Df (.bool (bif t then p else q))) []
   |x,y=>bif t then K x []else K y []
  |_=>none
 | .alloc e=>match E.T e with
  |some ti=>K (.v (.one (.ptr id 0))) [(id,some ⟨e,.cells (ti.zero.map (wideS E.wide))⟩)]
  |none=>none
 | .box e x=>match E.T e,cellsOf hp (ev x)with
  |some ti,some (cs,u)=>if cs.length=ti.size then K (.v (.one (.ptr id 0))) (u ++ [(id,some ⟨e,.cells cs⟩)])else none
  |_,_=>none
 | .build t parts=>match E.T t with
  |some ⟨_,_,zero,.struct fs⟩=>fillK hp (fun i=>(fs[i]?).map fun f=>(f.1,f.2.1)) ev parts.toList (zero.map .sc) [] fun cs u=>K (.v (.agg cs)) u
  |some ⟨_,_,zero,.arr _ qP _⟩=>fillK hp (fun i=>some (i*qP,qP)) ev parts.toList (zero.map .sc) [] fun cs u=>K (.v (.agg cs)) u
  |_=>none
 | .buildSlice t len parts=>match E.T t with
  |some ⟨_,_,_,.slice e⟩=>match E.T e with
   |some ⟨size,_,zero,kind⟩ =>
    if len*size<=16777216/\0<size then
    fillK hp (fun i=>some (i*size,size)) ev parts.toList ((cAG (len*size)).map fun i=>S.sc (zero.getD (i%size) undef)) [] fun cs u =>
     match kind,size with
     | .int k,1=>match allInts k cs with
      |some ns=>K (.v (.one (.buf id len))) (u ++ [(id,some ⟨e,.ints k ns⟩)])
      |none=>none
     |_,_=>K (.v (.one (.buf id len))) (u ++ [(id,some ⟨e,.cells cs⟩)])
    else none
   |none=>none
  |_=>none
 | .load t x=>match E.T t with
  |some ti=>match ev x with
   | .v (.one (.ptr i off))=>match hp i with
    |some ⟨_,.cells cs⟩=>match partOf ti cs off with
     |some v=>K (.v v) []
     |none=>none
    |_=>none
   | .v (.one (.Ui i j))=>match hp i,ti.kind.isAgg with
    |some ⟨_,.ints k ns⟩,false=>K (Df (.int k (ns.getD j 0))) []
    |_,_=>none
   | .v (.one (.Qn cs))=>match partOf ti cs 0 with
    |some v=>K (.v v) []
    |none=>none
   | .v (.one (.s (.pt x)))=>match partOf ti [.sc x] 0 with
    |some v=>K (.v v) []
    |none=>none
   |_=>none
  |none=>none
 | .makeFunc (.func f) ⟨[]⟩ Ii=>match capsOf hp (Ii.toList.map ev)with
  |some (xs,u)=>K (.v (.one (.s (.Vh f xs)))) u
  |none=>none
 | .store t x y=>match E.T t with
  |some ti=>match ev x with
   | .v (.one (.ptr i off))=>match hp i,cellsOf hp (ev y)with
    |some ⟨e,.cells cs⟩,some (new,u)=>if new.length=ti.size/\off+new.length<=cs.length/\(u.all fun p=>p.1 !=i)=true then K .any (u ++ [(i,some ⟨e,.cells (setAt cs off new)⟩)])else none
    |_,_=>none
   | .v (.one (.Ui i j))=>match hp i,ev y with
    |some ⟨e,.ints k ns⟩,.v (.one (.s (.sc (.int k' n))))=>if k=k'/\ti.size=1 then K .any [(i,some ⟨e,.ints k (ns.set j n)⟩)]else none
    |_,_=>none
   |_=>none
  |none=>none
 | .binOp op t x y _=>match ev x,ev y with
  | .v (.one (.s (.sc a))),.v (.one (.s (.sc b)))=>bif boolT (E.T t) a then binK op a b fun r=>K (Df r) []else none
  | .v (.agg cs),.v (.agg ds)=>match eqAgg (E.T t) cs ds with
   |some b=>match op with
    | .eql=>K (Df (.bool b)) []
    | .neq=>K (Df (.bool (!b))) []
    |_=>none
   |none=>none
  |_,_=>none
 | .unOp op _ x=>match ev x with
  | .v (.one (.s (.sc a)))=>unK op a fun r=>K (Df r) []
  |_=>none
 | .convert s d x=>match E.T s,E.T d,ev x with
  |some _,some ti,.v (.one (.s (.sc a)))=>convK ti.kind a fun r=>K (Df r) []
  |_,_,_=>none
 | .makeSlice t l c=>match E.T t,intArg (ev l),intArg (ev c)with
  |some ⟨_,_,_,.slice e⟩,some (_,a),some (_,b)=>match E.T e with
   |some ⟨1,bytes,[.int k0 z0],.int k⟩=>if bytes<=8/\0<bytes/\k0=k/\z0=0 then
     (if 0<=a/\a<=b/\b<=room then K (.v (.one (.buf id a.toNat))) [(id,some ⟨e,.ints k (cAW a.toNat 0)⟩)]else none)else none
   |_=>none
  |_,_,_=>none
 | .slice t x lo hi mx=>match E.T t with
  |some ⟨_,_,_,.slice e⟩=>match E.T e with
   |some ⟨1,_,_,.int k⟩=>match ev x with
    | .v (.one (.s (.ints k' ns)))=>if k=k' then sliceK ns.length (lo.map ev) (hi.map ev) (mx.map ev) fun l h=>K (.v (.one (.s (.ints k ((ns.take h).drop l))))) []else none
    | .v (.one (.s (.sc (.slice none 0 0))))=>sliceK 0 (lo.map ev) (hi.map ev) (mx.map ev) fun _ _=>K (.v (.one (.s (.ints k [])))) []
    | .v (.one (.buf i n))=>sliceK n (lo.map ev) (hi.map ev) (mx.map ev) fun l h=>K (.v (.one (.view i l (h-l)))) []
    | .v (.one (.view i off n))=>sliceK n (lo.map ev) (hi.map ev) (mx.map ev) fun l h=>K (.v (.one (.view i (off+l) (h-l)))) []
    |_=>none
   |some te=>match ev x with
    | .v (.one (.rows sz n f))=>if sz=te.size then sliceK n (lo.map ev) (hi.map ev) (mx.map ev) fun l h=>K (.v (.one (.rows sz (h-l) fun i=>f (l+i)))) []else none
    |_=>none
   |none=>none
  |_=>none
 | .fieldAddr t x f=>match E.T t with
  |some ⟨_,_,_,.struct fs⟩=>match fs[f]?,ev x with
   |some (off,size,_),.v (.one (.ptr i o))=>if 0<size then K (.v (.one (.ptr i (o+off)))) []else none
   |some (off,size,_),.v (.one (.Qn cs))=>if 0<size then K (.v (.one (.Qn (cs.drop off)))) []else none
   |_,_=>none
  |_=>none
 | .field t x f=>match E.T t with
  |some ⟨_,_,_,.struct fs⟩=>match fs[f]?,ev x with
   |some (off,size,g),.v (.agg cs)=>match (bif g then(if _h:off+size<=cs.length then some (V.agg ((cs.drop off).take size))else none)else(cs[off]?).map fun c=>V.one (.s c))with
    |some v=>K (.v v) []
    |none=>none
   |_,_=>none
  |_=>none
 | .indexAddr t x i=>match E.T t,intArg (ev i)with
  |some ti,some (_,n)=>match ti.kind with
   | .slice e=>match E.T e with
    |some te=>match ev x with
     | .v (.one (.ptr _ _))=>none
     | .v (.one (.Vo _ _))=>none
     |xa=>idxS E.short hp ti te.size xa n fun a=>K a []
    |none=>none
   | .arr _ qP _=>match ev x with
    | .v (.one (.ptr i off))=>idxK hp ti qP (.v (.one (.ptr i off))) n fun a=>K a []
    | .v (.one (.Vo k ns))=>idxK hp ti qP (.v (.one (.Vo k ns))) n fun a=>K a []
    |_=>none
   |_=>none
  |_,_=>none
 | .index t x i=>match E.T t,ev x,intArg (ev i)with
  |some ⟨_,_,_,.arr len qP g⟩,.v (.agg cs),some (_,n)=>if 0<=n/\n<len then
    match (bif g then(if _h:n.toNat*qP+qP<=cs.length then some (V.agg ((cs.drop (n.toNat*qP)).take qP))else none)else(aYB len qP n.toNat cs).map fun c=>V.one (.s c))with
    |some v=>K (.v v) []
    |none=>none
   else none
  |some ⟨_,_,_,.str⟩,.v (.one (.s (.sc (.string s)))),some (_,n)=>if 0<=n/\n<(s.size:Int)then K (Df (.int .u8 (Jb s n))) []else none
  |_,_,_=>none
 | .extract x i=>match ev x with
  | .Lv xs=>match xs[i]? with
   |some v=>K (.v v) []
   |none=>none
  |_=>none
 | .call ⟨.value fo,args,_⟩=>match funOf (ev fo)with
  |some f=>match (argVals (args.toList.map ev)).bind (E.ext f)with
   |some (g,vs)=>aO g (K (bDA vs) [])
   |none=>match E.ioF f with
    | []=>callK E id (keepOf E o) f (args.toList.map ev) hp K
    |p :: ps=>callIO E (p :: ps) id (keepOf E o) f (args.toList.map ev) hp K
  |none=>match cloOf (ev fo)with
   |some (f,xs)=>match E.ioF f with
    | []=>callK E id (keepOf E o) f (args.toList.map ev ++ xs.map bSL) hp K
    |_=>none
   |none=>none
 | .call ⟨.builtin b,args,yC⟩=>builtinK E id b (args.toList.map ev) yC.toList hp K
 |_=>none
def applyUps:qR->(Nat->Option kQ)->Nat->Option kQ
 | [],hp=>hp
 | (i,b) :: r,hp=>applyUps r (Ck hp i b)
def Ed(o:Oper)(a:A)(fr:Nat->A):Nat->A :=
 match o.dst with
 |some d=>Ck fr d a
 |none=>fr
def after(o:Oper)(st:St)(a:A)(u:qR):St:=⟨Ed o a st.fr,applyUps u st.hp,st.n⟩
def qV(E:Env)(id:Nat)(o:Oper)(ev:Operand->A)(hp:Nat->Option kQ):Option (A×qR):=effK E id o ev hp fun a u=>some (a,u)
structure Rec where
 i:Nat
 o:Oper
 aKS:List Nat
 aQP:List Nat
def uK(o:Oper)(ev:Operand->A)(u:qR):List Nat:=(o.op.operands.toList.flatMap fun x=>refs (ev x)) ++ u.map (·.1)
def befB(ops:Array Oper)(j:Nat):Nat->Oper->Bool
 |0,_=>false
 |n+1,o=>o.after.any fun e=>Region.binds .any e&&(e.on==j||(match ops[e.on]? with |some o'=>befB ops j n o' |none=>false))
def indep(ops:Array Oper)(r:Rec)(_i:Nat)(o:Oper)(aKS aQP:List Nat):Bool :=
 (o.after.any fun e=>Region.binds .any e&&e.on==r.i)||(r.o.apart ops o&&Qo r.aQP aKS&&Qo aQP r.aKS)||befB ops r.i 3 o
def jI(nt:Nat)(o:Oper):Bool:=match o.dst with
 |some d=>bZF d nt
 |none=>true
def yU(i:Nat)(o:Oper):Bool:=o.after.all fun e=>!Region.binds .any e||bZF e.on i
def opsK{R:Type}(E:Env)(draw:Bool)(ops:Array Oper)(base:Nat):List Oper->Nat->List Rec->St->(St->Option R)->Option R
 | [],_,_,st,K=>K st
 |o :: rest,i,oV,st,K =>
  bif jI E.nt o&&(!draw||yU i o)then
  match o.guard with
  |none=>effK E (base+8*i) o (evA E st.fr) st.hp fun a u =>
    let t:=uK o (evA E st.fr) u
    bif !draw||oV.all fun r=>indep ops r i o t (u.map (·.1))then opsK E draw ops base rest (i+1) (⟨i,o,t,u.map (·.1)⟩ :: oV) (after o st a u) K else none
  |some (j,want)=>match (ops[j]?).bind (·.dst)with
   |some d=>match st.fr d with
    | .v (.one (.s (.sc (.bool b)))) =>
     let go (lit:Bool):Option R :=
      let gD:St:=⟨Ck st.fr d (Df (.bool lit)),st.hp,st.n⟩
      bif lit==want then
       effK E (base+8*i) o (evA E gD.fr) gD.hp fun a u =>
        let t:=uK o (evA E gD.fr) u
        bif !draw||oV.all fun r=>indep ops r i o t (u.map (·.1))then opsK E draw ops base rest (i+1) (⟨i,o,t,u.map (·.1)⟩ :: oV) (after o gD a u) K else none
      else bif !draw||oV.all fun r=>indep ops r i o [] []then opsK E draw ops base rest (i+1) (⟨i,o,[],[]⟩ :: oV) (after o gD (.Lv []) []) K else none
     aB b (go true) (go false)
    | .Lv []=>bif !draw||oV.all fun r=>indep ops r i o [] []then opsK E draw ops base rest (i+1) (⟨i,o,[],[]⟩ :: oV) (after o st (.Lv []) []) K else none
    |_=>none
   |none=>none
  else none
inductive Ex where
 |normal
 |exit (id:Nat)
 |ret
abbrev KV:=A×Option kQ
def aOA(st:St)(s:Nat):Option (Nat×A):=match st.fr s with
 | .v (.one (.buf i n))=>match st.hp i with
  |some ⟨_,.cells cs⟩=>if n*(cs.length/n)=cs.length/\0<n then some (i,.v (.one (.rows (cs.length/n) n fun j=>(cs.drop (j*(cs.length/n))).take (cs.length/n))))else none
  |_=>none
 |_=>none
def canonGo(n0:Nat)(st:St):List Nat->Nat->List Nat->List KV
 | [],_,_=>[]
 |s :: r,p,seen=>bif bYW 1000000 s then(match aOA st (s%1000000)with
   |some (i,a)=>bif seen.elem i then(.any,none) :: canonGo n0 st r (p+1) seen else(a,none) :: canonGo n0 st r (p+1) (i :: seen)
   |none=>(.any,none) :: canonGo n0 st r (p+1) seen)else
  match st.fr (s%1000000)with
  | .v (.one (.buf i n))=>bif seen.elem i then(.any,none) :: canonGo n0 st r (p+1) seen else(.v (.one (.buf p n)),st.hp i) :: canonGo n0 st r (p+1) (i :: seen)
  | .v (.one (.ptr i 0))=>bif seen.elem i then(.any,none) :: canonGo n0 st r (p+1) seen else(.v (.one (.ptr p 0)),st.hp i) :: canonGo n0 st r (p+1) (i :: seen)
  | .v (.one (.ptr _ _))=>(.any,none) :: canonGo n0 st r (p+1) seen
  | .v (.one (.Ui _ _))=>(.any,none) :: canonGo n0 st r (p+1) seen
  | .v (.one (.view i off n))=>bif bZF i n0 then(.v (.one (.view i off n)),none) :: canonGo n0 st r (p+1) seen else(.any,none) :: canonGo n0 st r (p+1) seen
  | .Lv _=>(.any,none) :: canonGo n0 st r (p+1) seen
  |a=>(a,none) :: canonGo n0 st r (p+1) seen
def canonIO(st:St):Nat->Nat->List KV
 |0,_=>[]
 |n+1,i=>(.any,st.hp i) :: canonIO st n (i+1)
def below:Nat->List Nat
 |0=>[]
 |n+1=>n :: below n
def canon(n0:Nat)(keep:List Nat)(st:St):List KV:=canonIO st n0 0 ++ canonGo n0 st keep n0 (below n0)
def slotGo(t:Nat):List Nat->List KV->A
 |s :: r,kv :: l=>bif bYU t (s%1000000)then kv.1 else slotGo t r l
 |_,_=>.any
def blkGo:Nat->List KV->Option kQ
 |_,[]=>none
 |0,kv :: _=>kv.2
 |n+1,_ :: l=>blkGo n l
def mk(n0:Nat)(keep:List Nat)(l:List KV):St:=⟨fun t=>slotGo t keep (l.drop n0),fun i=>blkGo i l,n0+keep.length⟩
def keyOf:Code->Nat
 | .region id _ _=>id
 | .seq a _=>keyOf a
 | .block _ c=>keyOf c
 | .loop c=>keyOf c
 | .scope c=>keyOf c
 | .cond _ a _=>keyOf a
 |_=>0
section
variable {α R:Type}
def iter(G:(α->Option R)->α->Option R):Nat->α->Option R
 |0=>fun _=>none
 |n+1=>G (iter G n)
open Classical in
def fix (G:(α->Option R)->α->Option R) (a:α):Option R :=
 if h:∃r,∃n,iter G n a=some r then some (Classical.choose h)else none
end
abbrev roundOf{R:Type}(ec:Code->St->(Ex->St->Option R)->Option R)(n0:Nat)(keep:List Nat)(c:Code)(K:Ex->St->Option R)(rec:List KV->Option R)(l:List KV):Option R :=
 ec c (mk n0 keep l) fun ex gD=>match ex with
  | .normal=>rec (canon n0 keep gD)
  | .exit i=>K (.exit i) gD
  | .ret=>K .ret gD
def Cy{R:Type}(_key:Nat)(l:List KV)(k:List KV->Option R):Option R:=k l
def evalCode{R:Type}(E:Env):Code->St->(Ex->St->Option R)->Option R
 | .skip,st,K=>K .normal st
 | .label _,st,K=>K .normal st
 | .region _ ops draw,st,K=>opsK E draw ops st.n ops.toList 0 [] st fun gD=>K .normal ⟨gD.fr,gD.hp,st.n+8*ops.size⟩
 | .seq a b,st,K=>evalCode E a st fun ex gD=>match ex with
  | .normal=>match E.cut (keyOf b)with
   |some keep=>Cy (keyOf b) (canon E.n0 keep gD) fun l=>evalCode E b (mk E.n0 keep l) K
   |none=>evalCode E b gD K
  | .exit i=>K (.exit i) gD
  | .ret=>K .ret gD
 | .cond c a b,st,K=>match c with
  | .tmp s=>match st.fr s with
   | .v (.one (.s (.sc (.bool t))))=>aB t (evalCode E a ⟨Ck st.fr s (Df (.bool true)),st.hp,st.n⟩ K) (evalCode E b ⟨Ck st.fr s (Df (.bool false)),st.hp,st.n⟩ K)
   |_=>none
  | .const (.bool t)=>aB t (evalCode E a st K) (evalCode E b st K)
  |_=>none
 | .block id c,st,K=>evalCode E c st fun ex gD=>match ex with
  | .normal=>K .normal gD
  | .exit i=>bif bYU i id then K .normal gD else K (.exit i) gD
  | .ret=>K .ret gD
 | .exit id,st,K=>K (.exit id) st
 | .ret,st,K=>K .ret st
 | .loop c,st,K=>match E.roll (keyOf c)with
  |some n=>iter (fun rec l=>evalCode E c (mk E.n0 (E.keep (keyOf c)) l) fun ex gD=>match ex with
    | .normal=>rec (canon E.n0 (E.keep (keyOf c)) gD)
    | .exit i=>K (.exit i) gD
    | .ret=>K .ret gD) n (canon E.n0 (E.keep (keyOf c)) st)
  |none=>fix (fun rec l=>evalCode E c (mk E.n0 (E.keep (keyOf c)) l) fun ex gD=>match ex with
    | .normal=>rec (canon E.n0 (E.keep (keyOf c)) gD)
    | .exit i=>K (.exit i) gD
    | .ret=>K .ret gD) (canon E.n0 (E.keep (keyOf c)) st)
 | .scope c,st,K=>evalCode E c st K
 |_,_,_=>none
def resD(E:Env)(st:St):ResultVar->Option D
 | .tmp t=>match st.fr t with
  | .v (.agg cs)=>some (.agg cs)
  | .v (.one (.s x))=>some (.s x)
  | .v (.one (.buf i _))=>bif bZF i E.n0 then none else match st.hp i with
   |some ⟨e,.ints k ns⟩=>some (.own e k ns)
   |_=>none
  | .v (.one (.view i off n))=>bif E.io.elem i then some (.back i off n)else bif bZF i E.n0 then none else match st.hp i,off with
   |some ⟨e,.ints k ns⟩,0=>some (.own e k (ns.take n))
   |_,_=>none
  |_=>none
 | .cell t ty=>match st.fr t,E.T ty with
  | .v (.one (.ptr i off)),some ti=>match st.hp i with
   |some ⟨_,.cells cs⟩=>match partOf ti cs off with
    |some (.agg Ok)=>some (.agg Ok)
    |some (.one (.s x))=>some (.s x)
    |_=>none
   |_=>none
  |_,_=>none
def ownIds(st:St):List ResultVar->List Nat
 | []=>[]
 | .tmp t :: r=>(match st.fr t with | .v (.one (.buf i _))=>[i] | .v (.one (.view i _ _))=>[i] |_=>[]) ++ ownIds st r
 | .cell _ _ :: r=>ownIds st r
def bDP(st:St)(i:Nat):Option D:=match st.hp i with
 |some ⟨e,.ints k ns⟩=>some (.io e k ns 0 0)
 |_=>none
def rY(E:Env)(fn:Func)(ex:Ex)(st:St):Option (List D) :=
 match ex with
 | .exit _=>none
 |_=>bif nodup (ownIds st fn.results.toList)then(match E.io with
  | []=>fn.results.toList.mapM (resD E st)
  |p :: ps=>match fn.results.toList.mapM (resD E st),(p :: ps).mapM (bDP st)with
   |some rs,some is=>some (rs ++ is)
   |_,_=>none)else none
def bNU:D->A
 | .s x=>.v (.one (.s x))
 | .rows sz n f=>.v (.one (.rows sz n f))
 | .agg cs=>.v (.agg cs)
 | .own _ k ns=>.v (.one (.s (.ints k ns)))
 | .io _ _ _ _ _=>.any
 | .back _ _ _=>.any
def argAt(i:Nat):D->A
 | .io _ _ _ off n=>.v (.one (.view i off n))
 |d=>bNU d
def argFrI:Nat->List D->Nat->A
 |_,[],_=>.any
 |i,d :: _,0=>argAt i d
 |i,_ :: r,n+1=>argFrI (i+1) r n
abbrev Zj:List D->Nat->A:=argFrI 0
def argHp:Nat->List D->Nat->Option kQ
 |_,[],_=>none
 |i,.io e k ns _ _ :: r,j=>bif bYU j i then some ⟨e,.ints k ns⟩else argHp (i+1) r j
 |i,_ :: r,j=>argHp (i+1) r j
def aI(E:Env)(fn:Func)(c:Code)(ds:List D):Option (List D) :=
 evalCode E c ⟨Zj ds,argHp 0 ds,E.n0⟩ (rY E fn)
def aAS{R:Type}(E:Env)(b:Code)(K:Ex->St->Option R)(ex:Ex)(gD:St):Option R:=match ex with
 | .normal=>match E.cut (keyOf b)with
  |some keep=>Cy (keyOf b) (canon E.n0 keep gD) fun l=>evalCode E b (mk E.n0 keep l) K
  |none=>evalCode E b gD K
 | .exit i=>K (.exit i) gD
 | .ret=>K .ret gD
def Ou{R:Type}(id:Nat)(K:Ex->St->Option R)(ex:Ex)(gD:St):Option R:=match ex with
 | .normal=>K .normal gD
 | .exit i=>bif bYU i id then K .normal gD else K (.exit i) gD
 | .ret=>K .ret gD
def Rq{R:Type}(E:Env)(c:Code)(K:Ex->St->Option R)(ex:Ex)(gD:St):Option R:=match ex with
 | .normal=>fix (fun rec l=>evalCode E c (mk E.n0 (E.keep (keyOf c)) l) fun ex gD=>match ex with
  | .normal=>rec (canon E.n0 (E.keep (keyOf c)) gD)
  | .exit i=>K (.exit i) gD
  | .ret=>K .ret gD) (canon E.n0 (E.keep (keyOf c)) gD)
 | .exit i=>K (.exit i) gD
 | .ret=>K .ret gD
def findLoop{R:Type}(E:Env)(key:Nat):Code->(Ex->St->Option R)->Option (Code×(Ex->St->Option R))
 | .seq a b,K=>(findLoop E key a (aAS E b K)).or (findLoop E key b K)
 | .cond _ a b,K=>(findLoop E key a K).or (findLoop E key b K)
 | .block id c,K=>findLoop E key c (Ou id K)
 | .loop c,K=>bif bYU (keyOf c) key then some (c,K)else findLoop E key c (Rq E c K)
 | .scope c,K=>findLoop E key c K
 |_,_=>none
def fK{R:Type}(E:Env)(key:Nat):Code->(Ex->St->Option R)->Option (Code×(Ex->St->Option R))
 | .seq a b,K=>bif bYU (keyOf b) key then some (b,K)else(fK E key a (aAS E b K)).or (fK E key b K)
 | .cond _ a b,K=>(fK E key a K).or (fK E key b K)
 | .block id c,K=>fK E key c (Ou id K)
 | .loop c,K=>fK E key c (Rq E c K)
 | .scope c,K=>fK E key c K
 |_,_=>none
end AI
namespace AI
open Go Go.RowKit
def aIX(X:Nat->Prop)(w:World)(x v:Value):Prop:=x.oneCell'=true/\∃b off,v=.pointer (some ⟨b,off,none⟩)/\b<w.heap.size/\¬X b/\w.cell? ⟨b,off,none⟩=some x
def Sr(X:Nat->Prop)(w:World)(xs ps:List Value):Prop:=xs.length=ps.length/\∀(i:Nat) (x p:Value),xs[i]?=some x->ps[i]?=some p->aIX X w x p
def oT(X:Nat->Prop)(w:World):S->Value->Prop
 | .sc u,v=>v=u/\u.oneCell'=true
 | .ints k ns,v=>∃A c,v=.slice A ns.length c/\ns.length<=c/\∀(i:Nat) (n:Int),ns[i]?=some n->∃b off,A=some ⟨b,off,none⟩/\b<w.heap.size/\¬X b/\w.cell? ⟨b,off+i,none⟩=some (.int k n)
 | .bot,v=>v.oneCell'=true
 | .pt x,v=>aIX X w x v
 | .Vh f xs,v=>∃ps:List Value,v=.func (.func f) #[] ps.toArray/\Sr X w xs ps
def iY(X:Nat->Prop)(w:World)(cs:List S)(vs:List Value):Prop :=
 cs.length=vs.length/\∀(i:Nat) (s:S) (u:Value),cs[i]?=some s->vs[i]?=some u->oT X w s u
def uZ(X:Nat->Prop)(w:World)(b off:Nat)(cs:List S):Prop :=
 ∀(i:Nat) (s:S),cs[i]?=some s->b<w.heap.size/\¬X b/\∃u,w.cell? ⟨b,off+i,none⟩=some u/\oT X w s u
def lV(w:World)(g:Nat):Nat:=match w.heap[g]? with
 |some (.cells arr _ _)=>arr.size
 |_=>0
def xM(k:IntKind)(ns:List Int):List S:=ns.map fun n=>.sc (.int k n)
def aIW(ρ:Nat->Nat)(hp:Nat->Option kQ)(X:Nat->Prop)(w:World):L->Value->Prop
 | .s x,v=>oT X w x v
 | .rows sz n f,v=>∃A c,v=.slice A n c/\n<=c/\∀i,i<n->(f i).length=sz/\∃b off,A=some ⟨b,off,none⟩/\uZ X w b (off+i*sz) (f i)
 | .Qn cs,v=>∃b off,v=.pointer (some ⟨b,off,none⟩)/\uZ X w b off cs
 | .Vo k ns,v=>∃b off,v=.pointer (some ⟨b,off,none⟩)/\uZ X w b off (xM k ns)
 | .ptr id off,v=>v=.pointer (some ⟨ρ id,off,none⟩)
 | .Ui id i,v=>v=.pointer (some ⟨ρ id,i,none⟩)/\∀blk k ns,hp id=some blk->blk.cont=.ints k ns->i<ns.length
 | .buf id n,v=>∃cap,v=.slice (some ⟨ρ id,0,none⟩) n cap/\n<=cap/\(∀blk k ns,hp id=some blk->blk.cont=.ints k ns->n=ns.length/\cap<=maxLen/\cap<=lV w (ρ id))/\∀blk cs,hp id=some blk->blk.cont=.cells cs->∃sz,cs.length=n*sz/\cap*sz<=lV w (ρ id)/\cap<=maxLen
 | .view id off n,v=>∃o' cap,v=.slice (some ⟨ρ id,o',none⟩) n cap/\n<=cap/\(0<n->o'=off)/\(off=0->o'=0)/\∀blk k ns,hp id=some blk->blk.cont=.ints k ns->off+n<=ns.length/\cap<=maxLen/\cap<=lV w (ρ id)
theorem xF{ρ:Nat->Nat}{hp:Nat->Option kQ}{w:World}{id off n:Nat}{v:Value}(h:aIW ρ hp (fun _=>False) w (.view id off n) v) :
  ∃A cap,v=.slice A n cap/\n<=cap/\(0<n->A=some ⟨ρ id,off,none⟩)/\∀blk k ns,hp id=some blk->blk.cont=.ints k ns->off+n<=ns.length:=by
 obtain⟨o',cap,hv,hle,h1,_,h2⟩:=h;exact⟨_,cap,hv,hle,fun hn=>by rw[h1 hn],fun blk k ns h3 h4=>(h2 blk k ns h3 h4).1⟩
def Gt(ρ:Nat->Nat)(hp:Nat->Option kQ)(X:Nat->Prop)(w:World):V->Value->Prop
 | .one l,v=>aIW ρ hp X w l v
 | .agg cs,v=>∃arr,v=.agg arr/\iY X w cs arr.toList
def xE(ρ:Nat->Nat)(hp:Nat->Option kQ)(X:Nat->Prop)(w:World):A->Value->Prop
 | .v x,v=>Gt ρ hp X w x v
 | .Lv xs,v=>∃arr,v=.tuple arr/\xs.length=arr.size/\∀(i:Nat) (x:V) (u:Value),xs[i]?=some x->arr[i]?=some u->Gt ρ hp X w x u
 | .any,_=>True
def zK(X:Nat->Prop)(w:World):zO->Array Value->Prop
 | .ints k ns,arr=>ns.length<=arr.size/\∀(i:Nat) (n:Int),ns[i]?=some n->arr[i]?=some (Value.int k n)
 | .cells cs,arr=>cs.length<=arr.size/\∀(i:Nat) (s:S),cs[i]?=some s->∃u,arr[i]?=some u/\oT X w s u
def Gu(X:Nat->Prop)(w:World)(g:Nat)(b:kQ):Prop:=∃arr,w.heap[g]?=some (.cells arr b.e (0,0))/\zK X w b.cont arr
def Own(ρ:Nat->Nat)(hp:Nat->Option kQ)(b:Nat):Prop:=∃id blk,hp id=some blk/\ρ id=b
def XO(X:Nat->Prop)(ρ:Nat->Nat)(hp:Nat->Option kQ)(b:Nat):Prop:=X b\/Own ρ hp b
def GlobOk(glob:Nat->Option (IntKind×List Int))(X:Nat->Prop)(w:World):Prop :=
 ∀g k ns,glob g=some (k,ns)->g<w.heap.size/\¬X g/\uZ X w g 0 (xM k ns)
structure Old where
 w:World
 M:Nat->Prop
 g:Nat->Nat
 bDF:∀b,M b->b<w.heap.size
def Old.Jz(o:Old)(b:Nat):Prop:=o.w.heap.size<=b\/o.M b
def Old.Eh(o:Old)(n0 id b:Nat):Prop:=o.w.heap.size<=b\/(id<n0/\o.M b)
theorem Old.Eh.Jz{o:Old}{n0 id b:Nat}(h:o.Eh n0 id b):o.Jz b:=h.imp (fun h=>h) And.right
theorem Old.Eh.new{o:Old}{n0 id b:Nat}(h:o.Eh n0 id b)(hn:n0<=id):o.w.heap.size<=b:=h.elim (fun h=>h) fun h=>absurd h.1 (by omega)
def Old.bare(w:World):Old:=⟨w,fun _=>False,id,fun _ h=>h.elim⟩
structure Kept(o:Old)(w w':World):Prop where
 os:w'.os=w.os
 tape:w'.tape=w.tape
 output:w'.output=w.output
 size:w.heap.size<=w'.heap.size
 block:∀b,¬o.Jz b->w'.heap[b]?=w.heap[b]?
 room:∀b,o.M b->lV w' b=lV w b
theorem xY{w w':World}{b:Nat}(h:w'.heap[b]?=w.heap[b]?):lV w' b=lV w b:=by unfold lV;rw[h]
theorem Kept.refl(o:Old)(w:World):Kept o w w:=⟨rfl,rfl,rfl,bYT _,fun _ _=>rfl,fun _ _=>rfl⟩
theorem Kept.trans{o:Old}{a b c:World}(h:Kept o a b)(k:Kept o b c):Kept o a c :=
 ⟨k.os.trans h.os,k.tape.trans h.tape,k.output.trans h.output,bZP h.size k.size,fun i hi=>(k.block i hi).trans (h.block i hi),fun i hi=>(k.room i hi).trans (h.room i hi)⟩
theorem Old.Xm{o:Old}{b:Nat}(h:¬o.Jz b):b<o.w.heap.size:=by
 rcases bZJ b o.w.heap.size with h1 |h1
 ·exact h1
 ·exact(h (.inl h1)).elim
theorem Kept.below{w w' bCT:World}(h:Kept (Old.bare w) w' bCT):Below w.heap.size w' bCT :=
 ⟨h.os,h.tape,h.output,h.size,fun k hk=>h.block k (fun hm=>by
  rcases hm with hm |hm
  ·exact absurd (show w.heap.size<=k from hm) (by omega)
  ·exact hm)⟩
structure jJ(E:Env)(X:Nat->Prop)(w0:Old)(ρ:Nat->Nat)(al:Nat->Prop)(f:Nat->A)(hp:Nat->Option kQ)(a:Act)(w:World):Prop where
 fr:∀t,xE ρ hp (XO X ρ hp) w (f t) (a.tmps.getD t undef)
 sz:a.tmps.size=E.nt
 nod:a.defers=[]
 blk:∀id b,hp id=some b->w0.Eh E.n0 id (ρ id)/\Gu (XO X ρ hp) w (ρ id) b
 inj:∀id Zx b b',hp id=some b->hp Zx=some b'->ρ id=ρ Zx->id=Zx
 alh:∀id b,hp id=some b->al id
 alr:∀t id,id∈refs (f t)->al id
 below:Kept w0 w0.w w
 x0:∀b,X b->¬w0.Jz b
 glob:GlobOk E.glob X w0.w
 mg:∀g p,E.glob g=some p->¬w0.M g
 al0:∀id,id<E.n0->al id
 wL:∀id,id<E.n0->ρ id=w0.g id
structure iJ(X:Nat->Prop)(w:World)(X':Nat->Prop)(w':World):Prop where
 size:w.heap.size<=w'.heap.size
 keep:∀b,b<w.heap.size->¬X b->w'.heap[b]?=w.heap[b]?/\¬X' b
theorem iJ.refl(X:Nat->Prop)(w:World):iJ X w X w:=⟨bYT _,fun _ _ h=>⟨rfl,h⟩⟩
theorem iJ.trans{X X' bRJ:Nat->Prop}{w w' bCT:World}(h:iJ X w X' w')(h':iJ X' w' bRJ bCT):iJ X w bRJ bCT :=
 ⟨bZP h.size h'.size,fun b hb hx=>by
  obtain⟨e,Ae⟩:=h.keep b hb hx;obtain⟨e',bKH⟩:=h'.keep b (bZQ hb h.size) Ae;exact⟨e'.trans e,bKH⟩⟩
section
variable {X X':Nat->Prop} {w w':World}
theorem iJ.cell(h:iJ X w X' w'){b off:Nat}(hb:b<w.heap.size)(hx:¬X b):w'.cell? ⟨b,off,none⟩=w.cell? ⟨b,off,none⟩ :=
 World.cell?_of_block (a:=⟨b,off,none⟩) (h.keep b hb hx).1
theorem aIX.later(h:iJ X w X' w'){x v:Value}(r:aIX X w x v):aIX X' w' x v:=by
 obtain⟨h1,b,off,hv,hb,hx,hc⟩:=r;exact⟨h1,b,off,hv,bZQ hb h.size,(h.keep b hb hx).2,(h.cell hb hx).trans hc⟩
theorem Sr.later(h:iJ X w X' w'){xs ps:List Value}(r:Sr X w xs ps):Sr X' w' xs ps:=⟨r.1,fun i x p hx hp=>(r.2 i x p hx hp).later h⟩
theorem oT.later(h:iJ X w X' w'){s:S}{v:Value}(r:oT X w s v):oT X' w' s v:=by
 cases s with
 |sc u=>exact r
 |bot=>exact r
 |pt x=>exact aIX.later h r
 |Vh f xs=>obtain⟨ps,hv,hp⟩:=r;exact⟨ps,hv,hp.later h⟩
 |ints k ns =>
  obtain⟨A,c,hv,hle,hc⟩:=r;refine⟨A,c,hv,hle,fun i n hn=>?_⟩;obtain⟨b,off,hA,hb,hx,aNQ⟩:=hc i n hn;exact⟨b,off,hA,bZQ hb h.size,(h.keep b hb hx).2,(h.cell hb hx).trans aNQ⟩
theorem oT.one{s:S}{v:Value}(r:oT X w s v):v.oneCell'=true:=by
 cases s with
 |sc u=>obtain⟨rfl,h⟩:=r;exact h
 |bot=>exact r
 |pt x=>obtain⟨_,b,off,rfl,_⟩:=r;rfl
 |Vh f xs=>obtain⟨ps,rfl,_⟩:=r;rfl
 |ints k ns=>obtain⟨A,c,rfl,_⟩:=r;rfl
theorem iY.later(h:iJ X w X' w'){cs:List S}{vs:List Value}(r:iY X w cs vs):iY X' w' cs vs :=
 ⟨r.1,fun i s u hs hu=>(r.2 i s u hs hu).later h⟩
theorem uZ.later(h:iJ X w X' w'){b off:Nat}{cs:List S}(r:uZ X w b off cs):uZ X' w' b off cs:=by
 intro i s hs;obtain⟨hb,hx,u,hu,hr⟩:=r i s hs;exact⟨bZQ hb h.size,(h.keep b hb hx).2,u,(h.cell hb hx).trans hu,hr.later h⟩
theorem zK.later(h:iJ X w X' w'){c:zO}{arr:Array Value}(r:zK X w c arr):zK X' w' c arr:=by
 cases c with
 |ints k ns=>exact r
 |cells cs=>exact⟨r.1,fun i s hs=>let ⟨u,hu,hr⟩:=r.2 i s hs;⟨u,hu,hr.later h⟩⟩
end
def sameShape(b b':kQ):Prop:=(∀k ns,b'.cont=.ints k ns->∃k' nV,b.cont=.ints k' nV/\nV.length=ns.length)/\∀cs,b'.cont=.cells cs->∃Ok,b.cont=.cells Ok/\Ok.length=cs.length
theorem sameShape.refl(b:kQ):sameShape b b:=⟨fun k ns e=>⟨k,ns,e,rfl⟩,fun cs e=>⟨cs,e,rfl⟩⟩
section
variable {ρ ρ':Nat->Nat} {hp hp':Nat->Option kQ} {X X':Nat->Prop} {w w':World} {al:Nat->Prop}
def wV(ρ ρ':Nat->Nat)(hp hp':Nat->Option kQ)(w w':World)(al:Nat->Prop):Prop :=
 ∀id,al id->ρ' id=ρ id/\∀b',hp' id=some b'->∃b,hp id=some b/\sameShape b b'/\lV w' (ρ id)=lV w (ρ id)
theorem wV.refl(ρ:Nat->Nat)(hp:Nat->Option kQ)(w:World)(al:Nat->Prop):wV ρ ρ hp hp w w al :=
 fun _ _=>⟨rfl,fun b h=>⟨b,h,sameShape.refl _,rfl⟩⟩
theorem aIW.later(h:iJ X w X' w')(hh:wV ρ ρ' hp hp' w w' al){l:L}{v:Value}(sJ:∀id∈refsL l,al id)(r:aIW ρ hp X w l v):aIW ρ' hp' X' w' l v:=by
 cases l with
 |s x=>exact oT.later h r
 |rows sz n f =>
  obtain⟨A,c,hv,hle,hc⟩:=r;refine⟨A,c,hv,hle,fun i hi=>?_⟩;obtain⟨hl,b,off,hA,Up⟩:=hc i hi;exact⟨hl,b,off,hA,Up.later h⟩
 |Qn cs=>obtain⟨b,off,hv,hc⟩:=r;exact⟨b,off,hv,hc.later h⟩
 |Vo k ns=>obtain⟨b,off,hv,hc⟩:=r;exact⟨b,off,hv,hc.later h⟩
 |ptr id off =>
  have hr:v=.pointer (some ⟨ρ id,off,none⟩):=r;show v=.pointer (some ⟨ρ' id,off,none⟩);rw[(hh id (sJ id (by simp[refsL]))).1];exact hr
 |Ui id i =>
  obtain⟨hv,hc⟩:=r;obtain⟨e,hb⟩:=hh id (sJ id (by simp[refsL]));refine⟨by rw[e];exact hv,fun b' k ns h1 h2=>?_⟩;obtain⟨b,h3,h4,_⟩:=hb b' h1;obtain⟨k',nV,h5,h6⟩:=h4.1 k ns h2;have:=hc b k' nV h3 h5;omega
 |buf id n =>
  obtain⟨cap,hv,hle,hc,aWG⟩:=r;obtain⟨e,hb⟩:=hh id (sJ id (by simp[refsL]));refine⟨cap,by rw[e];exact hv,hle,fun b' k ns h1 h2=>?_,fun b' cs h1 h2=>?_⟩
  ·obtain⟨b,h3,h4,h7⟩:=hb b' h1;obtain⟨k',nV,h5,h6⟩:=h4.1 k ns h2;have:=hc b k' nV h3 h5;rw[e,h7];exact⟨by omega,this.2⟩
  ·obtain⟨b,h3,h4,h7⟩:=hb b' h1;obtain⟨Ok,h5,h6⟩:=h4.2 cs h2;obtain⟨sz,h8,h9⟩:=aWG b Ok h3 h5;rw[e,h7];exact⟨sz,by omega,h9⟩
 |view id off n =>
  obtain⟨o',cap,hv,hle,aNE,Bd,hc⟩:=r;obtain⟨e,hb⟩:=hh id (sJ id (by simp[refsL]));refine⟨o',cap,by rw[e];exact hv,hle,aNE,Bd,fun b' k ns h1 h2=>?_⟩;obtain⟨b,h3,h4,h7⟩:=hb b' h1;obtain⟨k',nV,h5,h6⟩:=h4.1 k ns h2;have:=hc b k' nV h3 h5;rw[e,h7];exact⟨by omega,this.2⟩
theorem Gt.later(h:iJ X w X' w')(hh:wV ρ ρ' hp hp' w w' al){x:V}{v:Value}(sJ:∀id∈refsV x,al id)(r:Gt ρ hp X w x v):Gt ρ' hp' X' w' x v:=by
 cases x with
 |one l=>exact aIW.later h hh sJ r
 |agg cs=>obtain⟨arr,hv,hr⟩:=r;exact⟨arr,hv,hr.later h⟩
theorem xE.later(h:iJ X w X' w')(hh:wV ρ ρ' hp hp' w w' al){x:A}{v:Value}(sJ:∀id∈refs x,al id)(r:xE ρ hp X w x v):xE ρ' hp' X' w' x v:=by
 cases x with
 |v x=>exact Gt.later h hh sJ r
 |any=>trivial
 |Lv xs =>
  obtain⟨arr,hv,hl,hr⟩:=r;refine⟨arr,hv,hl,fun i x u hx hu=>Gt.later h hh (fun id wQ=>sJ id ?_) (hr i x u hx hu)⟩;exact List.mem_flatMap.2 ⟨x,bZC hx,wQ⟩
end
theorem jJ.next{E:Env}{X:Nat->Prop}{w0:Old}{ρ ρ':Nat->Nat}{al al':Nat->Prop}{fr:Nat->A}{hp hp':Nat->Option kQ}{a:Act}{w w':World}{o:Oper}{x:A}{v:Value}
  (h:jJ E X w0 ρ al fr hp a w) (hd:jI E.nt o=true)
  (hl:iJ (XO X ρ hp) w (XO X ρ' hp') w') (hb:Kept w0 w w')
  (hh:wV ρ ρ' hp hp' w w' al)
  (Kc:∀id b,hp' id=some b->w0.Eh E.n0 id (ρ' id)/\Gu (XO X ρ' hp') w' (ρ' id) b)
  (Bf:∀id Zx b b',hp' id=some b->hp' Zx=some b'->ρ' id=ρ' Zx->id=Zx)
  (sJ:∀id,al id->al' id) (aZH:∀id b,hp' id=some b->al' id)
  (hx:xE ρ' hp' (XO X ρ' hp') w' x v) (bDT:∀id∈refs x,al' id) :
  jJ E X w0 ρ' al' (Ed o x fr) hp' (a.put o.dst v) w':=by
 have key:∀t,xE ρ' hp' (XO X ρ' hp') w' (Ed o x fr t) ((a.put o.dst v).tmps.getD t undef)/\∀id∈refs (Ed o x fr t),al' id:=by
  intro t;unfold Ed Act.put;cases aHX:o.dst with
  |none=>exact⟨xE.later hl hh (h.alr t) (h.fr t),fun id wQ=>sJ id (h.alr t id wQ)⟩
  |some d =>
   have kD:d<a.tmps.size:=by rw[h.sz];unfold jI at hd;rw[aHX]at hd;simpa using hd
   simp only[Ck];cases bQJ:bYU t d with
   |true =>
    obtain rfl:t=d:=bZI bQJ;simp only[cond_true];refine⟨?_,bDT⟩;have e:(a.tmps.setIfInBounds t v).getD t undef=v:=by simp[Array.getD,kD]
    rw[e];exact hx
   |false =>
    have Be:t≠d:=cAX bQJ;simp only[cond_false];have e:(a.tmps.setIfInBounds d v).getD t undef=a.tmps.getD t undef:=by
     simp only[Array.getD_eq_getD_getElem?,Array.getElem?_setIfInBounds];rw[if_neg (fun h=>Be h.symm)]
    rw[e];exact⟨xE.later hl hh (h.alr t) (h.fr t),fun id wQ=>sJ id (h.alr t id wQ)⟩
 exact { fr:=fun t=>(key t).1,sz:=by unfold Act.put;cases o.dst <;> simp[h.sz],nod:=by unfold Act.put;cases o.dst <;> exact h.nod,blk:=Kc,inj:=Bf,alh:=aZH,alr:=fun t=>(key t).2,below:=h.below.trans hb,x0:=h.x0,glob:=h.glob,mg:=h.mg,al0:=fun id hi=>sJ id (h.al0 id hi),wL:=fun id hi=>(hh id (h.al0 id hi)).1.trans (h.wL id hi) }
theorem jJ.pure{E:Env}{X:Nat->Prop}{w0:Old}{ρ:Nat->Nat}{al:Nat->Prop}{fr:Nat->A}{hp:Nat->Option kQ}{a:Act}{w:World}{o:Oper}{x:A}{v:Value}
  (h:jJ E X w0 ρ al fr hp a w) (hd:jI E.nt o=true) (hx:xE ρ hp (XO X ρ hp) w x v) (bDT:∀id∈refs x,al id) :
  jJ E X w0 ρ al (Ed o x fr) hp (a.put o.dst v) w :=
 h.next hd (iJ.refl _ _) (Kept.refl _ _) (wV.refl _ _ _ _) h.blk h.inj (fun _ h=>h) h.alh hx bDT
theorem jJ.Uu{E:Env}{X:Nat->Prop}{w0:Old}{ρ:Nat->Nat}{al:Nat->Prop}{fr:Nat->A}{hp:Nat->Option kQ}{a:Act}{w:World}
  (h:jJ E X w0 ρ al fr hp a w):GlobOk E.glob (XO X ρ hp) w:=by
 intro g k ns hg;obtain⟨h1,h2,h3⟩:=h.glob g k ns hg;have hm:¬w0.Jz g:=by
  rintro (hm |hm)
  ·omega
  ·exact h.mg g _ hg hm
 have hx:¬XO X ρ hp g:=by
  rintro (ho |⟨id,b',e1,e2⟩)
  ·exact h2 ho
  ·exact hm (e2▸(h.blk id b' e1).1.Jz)
 refine⟨bZQ h1 h.below.size,hx,fun i s hs=>?_⟩;obtain⟨_,_,u,hu,hr⟩:=h3 i s hs;refine⟨bZQ h1 h.below.size,hx,u,(World.cell?_of_block (a:=⟨g,0+i,none⟩) (h.below.block g hm)).trans hu,?_⟩;unfold xM at hs;rw[bYX]at hs;obtain⟨m,_,rfl⟩:=Option.map_eq_some_iff.1 hs;exact hr
theorem jJ.ev{E:Env}{X:Nat->Prop}{w0:Old}{ρ:Nat->Nat}{al:Nat->Prop}{fr:Nat->A}{hp:Nat->Option kQ}{a:Act}{w:World}
  (h:jJ E X w0 ρ al fr hp a w) (x:Operand):xE ρ hp (XO X ρ hp) w (evA E fr x) (a.eval x)/\∀id∈refs (evA E fr x),al id:=by
 cases x with
 |tmp t=>exact⟨h.fr t,h.alr t⟩
 |const v =>
  simp only[evA];split
  ·rename_i hv;exact⟨⟨rfl,hv⟩,by simp[refs,refsV,refsL]⟩
  ·exact⟨trivial,by simp[refs]⟩
 |func f=>exact⟨⟨rfl,rfl⟩,by simp[evA,refs,refsV,refsL]⟩
 |global g =>
  simp only[evA];cases hg:E.glob g with
  |none=>exact⟨trivial,by simp[refs]⟩
  |some p =>
   obtain⟨k,ns⟩:=p;refine⟨⟨g,0,rfl,?_⟩,by simp[refs,refsV,refsL]⟩;exact(h.Uu g k ns hg).2.2
end AI
namespace AI
open Go Go.RowKit
theorem Io{R:Type}(op:BinOp)(x y:Value)(K:Value->Option R):binK op x y K=(binK op x y some).bind K:=by
 unfold binK;split
 ·split <;> (repeat' split) <;> first |rfl | (simp;done)
 ·split <;> (repeat' split) <;> first |rfl | (generalize Ieee.Format.add _ _ _=m;cases m <;> rfl) | (generalize Ieee.Format.sub _ _ _=m;cases m <;> rfl) | (generalize Ieee.Format.mul _ _ _=m;cases m <;> rfl) | (generalize Ieee.Format.div _ _ _=m;cases m <;> rfl)
 ·split <;> rfl
 ·rfl
theorem Lt{R:Type}(op:UnOp)(x:Value)(K:Value->Option R):unK op x K=(unK op x some).bind K:=by
 unfold unK;split <;> simp
theorem Ek{R:Type}(k:TK)(x:Value)(K:Value->Option R):convK k x K=(convK k x some).bind K:=by
 unfold convK;split
 ·simp
 ·simp
 ·rename_i s b;cases ((FloatKind.decode s b).toInt .zero)with
  |none=>rfl
  |some n=>simp only[cAL];split <;> simp
 ·split <;> simp
 ·rfl
theorem fdiv_pow(a:Int)(n:Nat):a.fdiv (2^n)=a/((2^n:Nat):Int):=by
 rw[Int.fdiv_eq_ediv_of_nonneg _ (by exact Int.le_of_lt (Int.pow_pos (by omega)))];simp
theorem Ys{P:Program}(op:BinOp)(t:TypeId)(x y:Operand)(k k':IntKind)(a b:Int)(w:World):(eqGuard op t x y (.int k a) (.int k' b)).run P w=.ok () w:=by
 unfold eqGuard;split <;> rfl
theorem Qj{P:Program}(op:BinOp)(t:TypeId)(x y:Operand)(k k':FloatKind)(a b:Nat)(w:World):(eqGuard op t x y (.float k a) (.float k' b)).run P w=.ok () w:=by
 unfold eqGuard;split <;> rfl
theorem Uz{P:Program}(op:BinOp)(t:TypeId)(x y:Operand)(a b:Bool)(w:World):(eqGuard op t x y (.bool a) (.bool b)).run P w=.ok () w:=by
 unfold eqGuard;split <;> rfl
theorem aUO{P:Program}(op:BinOp)(t:TypeId)(k k':IntKind)(a b:Int)(r:Value)(w:World)(h:binK op (.int k a) (.int k' b) some=some r) :
  (binOp op t (.int k a) (.int k' b)).run P w=.ok r w/\r.oneCell'=true:=by
 cases op <;> simp only[binK]at h
 case shl =>
  split at h <;> cases h;rename_i hb;simp[binOp,Op.shift,hb,Value.oneCell']
 case shr =>
  split at h <;> cases h;rename_i hb;simp[binOp,Op.shift,fdiv_pow,hb,Value.oneCell']
 case quo =>
  split at h <;> try (cases h;done)
  split at h <;> cases h;rename_i hk hb;simp[binOp,Op.intDiv,hk,hb,Value.oneCell']
 case rem =>
  split at h <;> try (cases h;done)
  split at h <;> cases h;rename_i hk hb;simp[binOp,Op.intDiv,hk,hb,Value.oneCell']
 all_goals
  split at h <;> cases h;rename_i hk;subst hk;simp[binOp,Op.intArith,Op.intCmp,Op.intBits,xX,bitsI0,Value.oneCell']
theorem aIS{P:Program}(op:BinOp)(t:TypeId)(k k':FloatKind)(a b:Nat)(r:Value)(w:World)(h:binK op (.float k a) (.float k' b) some=some r) :
  (binOp op t (.float k a) (.float k' b)).run P w=.ok r w/\r.oneCell'=true:=by
 cases op <;> simp only[binK]at h
 case add =>
  split at h <;> try (cases h;done)
  rename_i hk;subst hk;obtain⟨m,hm,hr⟩:=Option.bind_eq_some_iff.1 h;cases hr;simp[binOp,Op.floatArith,hm,Value.oneCell']
 case sub =>
  split at h <;> try (cases h;done)
  rename_i hk;subst hk;obtain⟨m,hm,hr⟩:=Option.bind_eq_some_iff.1 h;cases hr;simp[binOp,Op.floatArith,hm,Value.oneCell']
 case mul =>
  split at h <;> try (cases h;done)
  rename_i hk;subst hk;obtain⟨m,hm,hr⟩:=Option.bind_eq_some_iff.1 h;cases hr;simp[binOp,Op.floatArith,hm,Value.oneCell']
 case quo =>
  split at h <;> try (cases h;done)
  rename_i hk;subst hk;obtain⟨m,hm,hr⟩:=Option.bind_eq_some_iff.1 h;cases hr;simp[binOp,Op.floatArith,hm,Value.oneCell']
 all_goals (try (cases h;done))
 all_goals
  split at h <;> cases h;rename_i hk;subst hk;simp[binOp,Op.floatCmp,Value.oneCell']
theorem aIR{P:Program}(op:BinOp)(t:TypeId)(x y:Operand)(a b r:Value)(w:World)(hb:∀q,a=.bool q->P.underlying t=some .bool)(h:binK op a b some=some r) :
  (do eqGuard op t x y a b;binOp op t a b:Sem Value).run P w=.ok r w/\r.oneCell'=true:=by
 cases a with
 |int k a =>
  cases b with
  |int k' b=>rw[Sem.run_bind,Ys];exact aUO op t k k' a b r w h
  |_=>simp[binK]at h
 |float k a =>
  cases b with
  |float k' b=>rw[Sem.run_bind,Qj];exact aIS op t k k' a b r w h
  |_=>simp[binK]at h
 |bool a =>
  cases b with
  |bool b =>
   rw[Sem.run_bind,Uz];have ht:=hb a rfl;cases op <;> simp only[binK]at h <;> cases h
   ·exact⟨run_eql_bool w t a b ht,rfl⟩
   ·refine⟨?_,rfl⟩;rw[Result.andThen_ok];simp only[binOp];rw[Sem.run_bind,run_equal_bool w t a b ht];rfl
  |_=>simp[binK]at h
 |_=>simp[binK]at h
theorem aKL{P:Program}(op:UnOp)(a r:Value)(w:World)(h:unK op a some=some r) :
  (Op.unary op a).run P w=.ok r w/\r.oneCell'=true:=by
 unfold unK at h;split at h <;> cases h <;> simp[Op.unary,Op.intArith,Op.intBits,xX,bitsI0,Value.oneCell']
end AI
namespace AI
open Go Go.RowKit
section
variable {E:Env} {X:Nat->Prop} {w0:Old} {ρ ρ':Nat->Nat} {al al':Nat->Prop} {fr:Nat->A} {hp hp':Nat->Option kQ} {a:Act} {w w':World}
theorem jJ.change(h:jJ E X w0 ρ al fr hp a w)
  (hl:iJ (XO X ρ hp) w (XO X ρ' hp') w') (hb:Kept w0 w w')
  (hh:wV ρ ρ' hp hp' w w' al)
  (Kc:∀id b,hp' id=some b->w0.Eh E.n0 id (ρ' id)/\Gu (XO X ρ' hp') w' (ρ' id) b)
  (Bf:∀id Zx b b',hp' id=some b->hp' Zx=some b'->ρ' id=ρ' Zx->id=Zx)
  (sJ:∀id,al id->al' id) (aZH:∀id b,hp' id=some b->al' id):jJ E X w0 ρ' al' fr hp' a w' :=
 { fr:=fun t=>xE.later hl hh (h.alr t) (h.fr t),sz:=h.sz,nod:=h.nod,blk:=Kc,inj:=Bf,alh:=aZH,alr:=fun t id wQ=>sJ id (h.alr t id wQ),below:=h.below.trans hb,x0:=h.x0,glob:=h.glob,mg:=h.mg,al0:=fun id hi=>sJ id (h.al0 id hi),wL:=fun id hi=>(hh id (h.al0 id hi)).1.trans (h.wL id hi) }
def Cons(u:qR):Prop:=∀p∈u,p.2=none
theorem lF(u v:qR)(hp:Nat->Option kQ):applyUps (u ++ v) hp=applyUps v (applyUps u hp):=by
 induction u generalizing hp with
 |nil=>rfl
 |cons p u ih=>obtain⟨i,b⟩:=p;simp only[cAM,applyUps];exact ih _
theorem bR{α:Type}(f:Nat->α)(d:Nat)(x:α):Ck f d x d=x:=by simp[Ck]
theorem gB{α:Type}(f:Nat->α){d i:Nat}(x:α)(h:i≠d):Ck f d x i=f i:=by
 have:bYU i d=false:=by cases hb:bYU i d with
  |false=>rfl
  |true=>exact absurd (bZI hb) h
 simp[Ck,this]
theorem iK{u:qR}(hu:Cons u){hp:Nat->Option kQ}{i:Nat}{b:kQ}(h:applyUps u hp i=some b):hp i=some b:=by
 induction u generalizing hp with
 |nil=>exact h
 |cons p u ih =>
  obtain⟨j,c⟩:=p;have hc:c=none:=hu (j,c) (by simp);subst hc;have:=ih (fun p hp=>hu p (by simp[hp])) h
  by_cases bBU:i=j
  ·subst bBU;rw[bR]at this;cases this
  ·rwa [gB _ _ bBU]at this
theorem Qt{u:qR}(hu:Cons u){hp:Nat->Option kQ}{i:Nat}(h:(i,none)∈u):applyUps u hp i=none:=by
 induction u generalizing hp with
 |nil=>cases h
 |cons p u ih =>
  obtain⟨j,c⟩:=p;have hc:c=none:=hu (j,c) (by simp);subst hc;have Xz:Cons u:=fun p hp=>hu p (by simp[hp])
  rcases List.mem_cons.1 h with h |h
  ·cases h;cases hq:applyUps ((i,none) :: u) hp i with
   |none=>rfl
   |some b=>have:=iK Xz (hp:=Ck hp i none) hq;rw[bR]at this;cases this
  ·exact ih Xz h
theorem Own.of_cons{u:qR}(hu:Cons u){b:Nat}(h:Own ρ (applyUps u hp) b):Own ρ hp b:=by
 obtain⟨id,bl,h1,h2⟩:=h;exact⟨id,bl,iK hu h1,h2⟩
theorem iJ.cons{u:qR}(hu:Cons u):iJ (XO X ρ hp) w (XO X ρ (applyUps u hp)) w :=
 ⟨bYT _,fun _ _ hx=>⟨rfl,fun h=>hx (h.imp id (Own.of_cons hu))⟩⟩
theorem Gu.later{X X':Nat->Prop}{g:Nat}{b:kQ}(h:iJ X w X' w')(hg:w'.heap[g]?=w.heap[g]?)(r:Gu X w g b):Gu X' w' g b:=by
 obtain⟨arr,h1,h2⟩:=r;exact⟨arr,hg.trans h1,h2.later h⟩
theorem jJ.cons(h:jJ E X w0 ρ al fr hp a w){u:qR}(hu:Cons u):jJ E X w0 ρ al fr (applyUps u hp) a w :=
 h.change (iJ.cons hu) (Kept.refl _ _)
  (fun _ _=>⟨rfl,fun b' pW=>⟨b',iK hu pW,sameShape.refl _,rfl⟩⟩)
  (fun id b hb=>⟨(h.blk id b (iK hu hb)).1,(h.blk id b (iK hu hb)).2.later (iJ.cons hu) rfl⟩)
  (fun id Zx b b' h1 h2 e=>h.inj id Zx b b' (iK hu h1) (iK hu h2) e)
  (fun _ h=>h) (fun id b hb=>h.alh id b (iK hu hb))
theorem Gu.lt{X:Nat->Prop}{g:Nat}{b:kQ}(r:Gu X w g b):g<w.heap.size:=by
 obtain⟨arr,h1,_⟩:=r;exact(Array.getElem?_eq_some_iff.1 h1).1
theorem xP(w:World)(o:Obj):(w.alloc o).heap[w.heap.size]?=some o:=heap_alloc_new w o
theorem xO(w:World)(o:Obj){k:Nat}(h:k<w.heap.size):(w.alloc o).heap[k]?=w.heap[k]?:=Below.heap_alloc w o k h
theorem jJ.jK(h:jJ E X w0 ρ al fr hp a w){id:Nat}{b:kQ}(hb:hp id=some b):ρ id<w.heap.size:=(h.blk id b hb).2.lt
theorem Kept.alloc{o:Old}{w:World}(h:o.w.heap.size<=w.heap.size)(x:Obj):Kept o w (w.alloc x) :=
 ⟨rfl,rfl,rfl,by simp,fun _ hb=>xO w x (by have:=Old.Xm hb;omega),fun b hb=>xY (xO w x (by have:=o.bDF b hb;omega))⟩
theorem jJ.alloc(h:jJ E X w0 ρ al fr hp a w){id:Nat}(wQ:¬al id)(sJ:∀i,al i->al' i)(tQ:al' id)(e:TypeId)(c:zO)(arr:Array Value)(hc:zK (XO X ρ hp) w c arr) :
  jJ E X w0 (Ck ρ id w.heap.size) al' fr (Ck hp id (some ⟨e,c⟩)) a (w.alloc (.cells arr e)):=by
 have Be:∀i,al i->i≠id:=fun i hi e=>wQ (e▸hi)
 have hl:iJ (XO X ρ hp) w (XO X (Ck ρ id w.heap.size) (Ck hp id (some ⟨e,c⟩))) (w.alloc (.cells arr e)):=by
  refine⟨by simp,fun b hb hx=>⟨xO w _ hb,fun ho=>?_⟩⟩;rcases ho with ho |⟨i,bl,h1,h2⟩
  ·exact hx (.inl ho)
  ·by_cases hi:i=id
   ·subst hi;rw[bR]at h2;omega
   ·rw[gB _ _ hi]at h1 h2;exact hx (.inr ⟨i,bl,h1,h2⟩)
 refine h.change hl (Kept.alloc h.below.size _) ?_ ?_ ?_ sJ ?_
 ·intro i hi;refine⟨gB _ _ (Be i hi),fun b' pW=>?_⟩;rw[gB _ _ (Be i hi)]at pW;refine⟨b',pW,sameShape.refl _,?_⟩;unfold lV;rw[xO w _ (h.jK pW)]
 ·intro i b hb
  by_cases hi:i=id
  ·subst hi;rw[bR]at hb;cases hb;refine⟨by rw[bR];exact .inl h.below.size,arr,by rw[bR];exact xP w _,hc.later hl⟩
  ·rw[gB _ _ hi]at hb;rw[gB _ _ hi];exact⟨(h.blk i b hb).1,(h.blk i b hb).2.later hl (xO w _ (h.jK hb))⟩
 ·intro i i' b b' h1 h2 e
  by_cases hi:i=id
  ·by_cases aFI:i'=id
   ·rw[hi,aFI]
   ·subst hi;rw[gB _ _ aFI]at h2;rw[bR,gB _ _ aFI]at e;have:=h.jK h2;omega
  ·by_cases aFI:i'=id
   ·subst aFI;rw[gB _ _ hi]at h1;rw[bR,gB _ _ hi]at e;have:=h.jK h1;omega
   ·rw[gB _ _ hi]at h1 e;rw[gB _ _ aFI]at h2 e;exact h.inj i i' b b' h1 h2 e
 ·intro i b hb
  by_cases hi:i=id
  ·subst hi;exact tQ
  ·rw[gB _ _ hi]at hb;exact sJ i (h.alh i b hb)
theorem jJ.setRow(h:jJ E X w0 ρ al fr hp a w){id:Nat}{b:kQ}(hb:hp id=some b)(c:zO)(arr:Array Value)(hs:sameShape b ⟨b.e,c⟩)(rT:lV w (ρ id)=arr.size)(hc:zK (XO X ρ hp) w c arr) :
  jJ E X w0 ρ al fr (Ck hp id (some ⟨b.e,c⟩)) a (w.setRow (ρ id) arr):=by
 obtain⟨Ny,bNT,hg,_⟩:=h.blk id b hb;have tQ:(w.setRow (ρ id) arr).heap[ρ id]?=some (.cells arr b.e (0,0)):=setRow_heap w (ρ id) bNT arr b.e _ hg;have hold:∀k,k≠ρ id->(w.setRow (ρ id) arr).heap[k]?=w.heap[k]?:=fun k hk=>setRow_other w (ρ id) k arr (fun e=>hk e)
 have tP:∀b',Own ρ (Ck hp id (some ⟨b.e,c⟩)) b'->Own ρ hp b':=by
  rintro b' ⟨i,bl,h1,h2⟩
  by_cases hi:i=id
  ·subst hi;exact⟨i,b,hb,h2⟩
  ·rw[gB _ _ hi]at h1;exact⟨i,bl,h1,h2⟩
 have hl:iJ (XO X ρ hp) w (XO X ρ (Ck hp id (some ⟨b.e,c⟩))) (w.setRow (ρ id) arr):=by
  refine⟨by simp[World.setRow],fun b' pW hx=>⟨hold b' (fun e=>hx (.inr ⟨id,b,hb,e.symm⟩)),fun ho=>hx (ho.imp (fun h=>h) (tP b'))⟩⟩
 have Bf:∀i b',hp i=some b'->i≠id->ρ i≠ρ id:=fun i b' hi Be e=>Be (h.inj i id b' b hi hb e)
 refine h.change hl ⟨rfl,rfl,rfl,by simp[World.setRow],fun k hk=>hold k (fun e=>hk (e▸Ny.Jz)),fun k _=>by
  by_cases hk:k=ρ id
  ·rw[hk,rT];unfold lV;rw[tQ]
  ·exact xY (hold k hk)⟩ ?_ ?_ ?_ (fun _ h=>h) ?_
 ·intro i _;refine⟨rfl,fun b' pW=>?_⟩
  by_cases hi:i=id
  ·subst hi;rw[bR]at pW;cases pW;refine⟨b,hb,hs,?_⟩;rw[rT];unfold lV;rw[tQ]
  ·rw[gB _ _ hi]at pW;refine⟨b',pW,sameShape.refl _,?_⟩;unfold lV;rw[hold _ (Bf i b' pW hi)]
 ·intro i b' pW
  by_cases hi:i=id
  ·subst hi;rw[bR]at pW;cases pW;exact⟨Ny,arr,tQ,hc.later hl⟩
  ·rw[gB _ _ hi]at pW;exact⟨(h.blk i b' pW).1,(h.blk i b' pW).2.later hl (hold _ (Bf i b' pW hi))⟩
 ·intro i i' b1 b2 h1 h2 e;have f:∀i b1,Ck hp id (some ⟨b.e,c⟩) i=some b1->∃b2,hp i=some b2:=by
   intro i b1 h1
   by_cases hi:i=id
   ·subst hi;exact⟨b,hb⟩
   ·rw[gB _ _ hi]at h1;exact⟨b1,h1⟩
  obtain⟨c1,Yl⟩:=f i b1 h1;obtain⟨c2,aNY⟩:=f i' b2 h2;exact h.inj i i' c1 c2 Yl aNY e
 ·intro i b1 h1
  by_cases hi:i=id
  ·subst hi;exact h.alh i b hb
  ·rw[gB _ _ hi]at h1;exact h.alh i b1 h1
theorem jJ.Sb(h:jJ E X w0 ρ al fr hp a w){id:Nat}{b:kQ}(hb:hp id=some b){u:qR}(hu:Cons u)(wQ:(id,none)∈u):¬XO X ρ (applyUps u hp) (ρ id):=by
 rintro (hx |⟨i,bl,h1,h2⟩)
 ·exact h.x0 _ hx (h.blk id b hb).1.Jz
 ·have:=h.inj i id bl b (iK hu h1) hb h2;subst this;rw[Qt hu wQ]at h1;cases h1
theorem jJ.yZ(h:jJ E X w0 ρ al fr hp a w){id:Nat}{e:TypeId}{k:IntKind}{ns:List Int}(hb:hp id=some ⟨e,.ints k ns⟩){i:Nat}{n:Int}(hi:ns[i]?=some n):w.cell? ⟨ρ id,i,none⟩=some (.int k n):=by
 obtain⟨_,arr,hg,hc⟩:=h.blk id _ hb;rw[cell_of_row w (ρ id) i arr e (0,0) hg];exact hc.2 i n hi
theorem xD(h:jJ E X w0 ρ al fr hp a w){x:A}{v:Value}(hr:xE ρ hp (XO X ρ hp) w x v){cs:List S}{u:qR}(hc:cellsOf hp x=some (cs,u)) :
  Cons u/\iY (XO X ρ (applyUps u hp)) w cs v.cells.toList:=by
 unfold cellsOf at hc;split at hc
 ·cases hc;obtain⟨arr,rfl,hs⟩:=hr;exact⟨(fun p hp=>by cases hp),hs⟩
 ·cases hc;rename_i x;have hr:oT _ w x v:=hr;refine⟨(fun p hp=>by cases hp),?_⟩;have e:v.cells.toList=[v]:=by
   have:=hr.one;cases v <;> first |rfl | (simp[Value.oneCell']at this)
  rw[e];refine⟨rfl,fun i s u hs hu=>?_⟩
  match i with
  |0=>simp at hs hu;subst hs;subst hu;exact hr
  |i+1=>simp at hs
 ·split at hc <;> cases hc;rename_i id n o e k ns hb;obtain⟨cap,rfl,Dh,aZF,_⟩:=hr;have hu:Cons [(id,none)]:=fun p hp=>by simp at hp;subst hp;rfl
  refine⟨hu,rfl,fun i s u hs Xz=>?_⟩
  match i with
  |0 =>
   simp[Value.cells]at hs Xz;subst hs;subst Xz;obtain⟨hn,_⟩:=aZF _ k ns hb rfl;subst hn;refine⟨_,cap,rfl,Dh,fun i n hi=>⟨ρ id,0,rfl,h.jK hb,h.Sb hb hu (by simp),?_⟩⟩;rw[bYV];exact h.yZ hb hi
  |i+1=>simp at hs
 ·split at hc <;> cases hc;rename_i id off n o e k ns hb;obtain⟨A0,cap,rfl,Dh,hA,hlen⟩:=xF hr;have hu:Cons [(id,none)]:=fun p hp=>by simp at hp;subst hp;rfl
  have hl:=hlen _ k ns hb rfl;refine⟨hu,rfl,fun i s u hs Xz=>?_⟩
  match i with
  |0 =>
   simp[Value.cells]at hs Xz;subst hs;subst Xz;refine⟨A0,cap,by simp;omega,by simp;omega,fun i m hi=>?_⟩;have aBS:i<n:=by
    have:=(List.getElem?_eq_some_iff.1 hi).1;simp at this;omega
   refine⟨ρ id,off,hA (by omega),h.jK hb,h.Sb hb hu (by simp),?_⟩;refine h.yZ hb ?_;rw[bYY aBS,bZG]at hi;exact hi
  |i+1=>simp at hs
 ·cases hc
end
end AI
namespace AI
open Go Go.RowKit
def tN:TypeDesc->Bool
 | .struct _ | .array _ _=>true
 |_=>false
def Pk(P:Program):TK->TypeDesc->Prop
 | .bool,d=>d=.bool
 | .int k,d=>d=.int k
 | .float k,d=>d=.float k
 | .other,d=>tN d=false
 | .struct fs,d=>∃fields,d=.struct fields/\fs.length=fields.size/\∀(i:Nat) (f:Field),fields[i]?=some f->∃fi fd,P.info? f.type=some fi/\P.underlying f.type=some fd/\fs[i]?=some (f.offset,fi.size,tN fd)
 | .arr len qP g,d=>∃e ei ed,d=.array len e/\P.info? e=some ei/\ei.size=qP/\P.underlying e=some ed/\tN ed=g
 | .slice e,d=>d=.slice e
 | .str,d=>d=.string
def bGL:EK->TypeDesc->Bool
 | .int k,.int k'=>decide (k'=k)
 | .bool,.bool=>true
 | .float k,.float k'=>decide (k'=k)
 |_,_=>false
def eqChkF(P:Program):Nat->List Field->List EK->Bool
 |_,[],[]=>true
 |i,f :: r,k :: ks=>(f.name != "_")&&(bYU f.offset i&&((match P.underlying f.type with
  |some d=>bGL k d
  |none=>false)&&eqChkF P (i+1) r ks))
 |_,_,_=>false
def bBE(P:Program)(t:TypeId)(ks:List EK):Prop:=∃fields,P.underlying t=some (.struct fields)/\P.stoodInHeld t=false/\eqChkF P 0 fields.toList ks=true/\P.eqGuardType P.depth t=false
structure Bp(P:Program)(t:TypeId)(ti:TI):Prop where
 i:∃i,P.info? t=some i/\i.size=ti.size/\i.bytes=ti.bytes/\∃z,i.zero=some z/\z.cells.toList=ti.zero
 zl:ti.zero.length=ti.size
 zo:∀v∈ti.zero,v.oneCell'=true
 d:∃d,P.underlying t=some d/\Pk P ti.kind d
 eq:∀ks,yK ti=some ks->bBE P t ks
def oS(P:Program)(T:TypeId->Option TI):Prop:=∀t ti,T t=some ti->Bp P t ti
theorem Pk.agg{P:Program}{k:TK}{d:TypeDesc}(h:Pk P k d):tN d=k.isAgg:=by
 cases k with
 |other=>exact h
 |struct fs=>obtain⟨f,rfl,_⟩:=h;rfl
 |arr l e g=>obtain⟨_,_,_,rfl,_⟩:=h;rfl
 |_=>cases h;rfl
section
variable {P:Program} {t:TypeId} {ti:TI} {w:World}
theorem Bp.Rg(h:Bp P t ti):(isAgg t).run P w=.ok ti.kind.isAgg w:=by
 obtain⟨d,hd,hk⟩:=h.d;rw[<-hk.agg];unfold isAgg;rw[Sem.run_bind,run_underlying hd];cases d <;> rfl
theorem aCB{k:EK}{c d:S}{p:Bool}(he:eqCell k c d=some p){f:TypeId}{desc:TypeDesc}(hu:P.underlying f=some desc)(hk:bGL k desc=true)(n:Nat) :
  ∃x y,c=.sc x/\d=.sc y/\(Op.equalIn (n+1) f x y).run P w=.ok p w/\∀(cs:Array Value) (i:Nat) (v:Value),cs[i]?=some v->(part f cs i).run P w=.ok v w:=by
 have bJF:(isAgg f).run P w=.ok false w->∀(cs:Array Value) (i:Nat) (v:Value),cs[i]?=some v->(part f cs i).run P w=.ok v w:=by
  intro ha cs i v hv;unfold part;rw[Sem.run_bind,ha];simp[hv]
 unfold eqCell at he;split at he
 ·split at he
  ·rename_i hh;obtain⟨rfl,rfl⟩:=hh;cases he;cases desc <;> first | (cases hk;done) |skip
   exact⟨_,_,rfl,rfl,run_equalIn_int w n f _ _ _ _ hu,bJF (by simp[isAgg,Sem.run_bind,run_underlying hu])⟩
  ·cases he
 ·cases he;cases desc <;> first | (cases hk;done) |skip
  exact⟨_,_,rfl,rfl,run_equalIn_bool w n f _ _ hu,bJF (by simp[isAgg,Sem.run_bind,run_underlying hu])⟩
 ·split at he
  ·rename_i hh;obtain⟨rfl,rfl⟩:=hh;cases he;cases desc <;> first | (cases hk;done) |skip
   exact⟨_,_,rfl,rfl,by simp[Op.equalIn,run_underlying hu,Op.floatEq],bJF (by simp[isAgg,Sem.run_bind,run_underlying hu])⟩
  ·cases he
 ·cases he
theorem aFY(d:Nat)(xs ys:Array Value):∀(fs:List Field) (ks:List EK) (i:Nat) (cs ds:List S) (q:Bool),eqChkF P i fs ks=true->eqInts ks cs ds=some q ->
  (∀(j:Nat) (c:Value),cs[j]?=some (.sc c)->xs[i+j]?=some c)->(∀(j:Nat) (c:Value),ds[j]?=some (.sc c)->ys[i+j]?=some c)->(Op.eqFields (d+1) xs ys fs).run P w=.ok q w
 | [],ks,i,cs,ds,q,h,he,hx,hy=>by
  cases ks with
  |cons=>cases h
  |nil =>
   have:q=true:=by cases cs <;> cases ds <;> simp[eqInts]at he <;> exact he
   subst this;rfl
 |f :: r,ks,i,cs,ds,q,h,he,hx,hy=>by
  cases ks with
  |nil=>cases h
  |cons k ks =>
   unfold eqChkF at h;simp only[bYZ,bne_iff_ne,ne_eq]at h;obtain⟨hn,ho,hu,hr⟩:=h;have ho:=bZI ho;split at hu
   ·rename_i desc Xz;obtain⟨c,d',r1,r2,p,q',rfl,rfl,hp,hq,rfl⟩:∃c d' r1 r2 p q',cs=c :: r1/\ds=d' :: r2/\eqCell k c d'=some p/\eqInts ks r1 r2=some q'/\q=(p&&q'):=by
     clear hx hy
     match cs,ds,he with
     |c :: r1,d' :: r2,Ct =>
      simp only[eqInts]at Ct;split at Ct
      ·rename_i p hp;obtain⟨q',hq,rfl⟩:=Option.map_eq_some_iff.1 Ct;exact⟨c,d',r1,r2,p,q',rfl,rfl,hp,hq,rfl⟩
      ·cases Ct
    obtain⟨a,b,rfl,rfl,heq,bEI⟩:=aCB (w:=w) hp Xz hu d;have x0:=hx 0 _ rfl;have y0:=hy 0 _ rfl;have ih:=aFY d xs ys r ks (i+1) r1 r2 q' hr hq (fun j c hc=>by have:=hx (j+1) c hc;rwa [show i+(j+1)=i+1+j from by omega]at this) (fun j c hc=>by have:=hy (j+1) c hc;rwa [show i+(j+1)=i+1+j from by omega]at this);rw[bZR,<-ho]at x0 y0;simp only[Op.eqFields,ne_eq,hn,not_false_eq_true,if_true,Sem.run_bind,bEI _ _ _ x0,bEI _ _ _ y0,Result.andThen_ok,heq];cases p with
    |true=>simpa [Sem.run_ite] using ih
    |false=>simp
   ·cases hu
theorem aZT{ks:List EK}(h:bBE P t ks){xs ys:Array Value}{cs ds:List S}{q:Bool}(he:eqInts ks cs ds=some q)
  (hx:∀(j:Nat) (c:Value),cs[j]?=some (.sc c)->xs[j]?=some c) (hy:∀(j:Nat) (c:Value),ds[j]?=some (.sc c)->ys[j]?=some c) :
  (∀y z,(do eqGuard .eql t y z (.agg xs) (.agg ys);binOp .eql t (.agg xs) (.agg ys):Sem Value).run P w=.ok (.bool q) w)/\(∀y z,(do eqGuard .neq t y z (.agg xs) (.agg ys);binOp .neq t (.agg xs) (.agg ys):Sem Value).run P w=.ok (.bool (!q)) w):=by
 obtain⟨fields,hu,hs,hf,hg⟩:=h;have aJU:P.fieldsOf t=fields:=by simp[Program.fieldsOf,hu]
 have hr:(Op.equal t (.agg xs) (.agg ys)).run P w=.ok q w:=by
  show(Op.equalIn (9999+1) t (.agg xs) (.agg ys)).run P w=_;rw[run_equalIn_struct w 9999 t xs ys (by rw[aJU];exact hu) hs,aJU];exact aFY (w:=w) 9998 xs ys fields.toList ks 0 cs ds q hf he (fun j c hc=>by rw[bYV];exact hx j c hc) (fun j c hc=>by rw[bYV];exact hy j c hc)
 constructor <;> intro y z <;> rw[Sem.run_bind,run_eqGuard_agg (w:=w) _ t y z xs ys hg,Result.andThen_ok]
 ·show(do pure (Value.bool (<-Op.equal t (.agg xs) (.agg ys))):Sem Value).run P w=_;rw[Sem.run_bind,hr];rfl
 ·show(do pure (Value.bool (!(<-Op.equal t (.agg xs) (.agg ys)))):Sem Value).run P w=_;rw[Sem.run_bind,hr];rfl
theorem Bp.run_sizeOf(h:Bp P t ti):(sizeOf t).run P w=.ok ti.size w:=by
 obtain⟨i,hi,hs,_⟩:=h.i;simp[sizeOf,typeInfo,hi,hs]
theorem Bp.aLQ(h:Bp P t ti):∃z,(zeroValue t).run P w=.ok z w/\z.cells.toList=ti.zero:=by
 obtain⟨i,hi,hs,hb,z,hz,hc⟩:=h.i;exact⟨z,by simp[zeroValue,typeInfo,hi,hz],hc⟩
end
theorem aU{α:Type}{l:List α}{i:Nat}{x:α}(h:l[i]?=some x):i<l.length:=(List.getElem?_eq_some_iff.1 h).1
theorem bD{α:Type}{l:List α}{i:Nat}(h:i<l.length):∃x,l[i]?=some x:=⟨l[i],bZK h⟩
theorem mH(b off n:Nat):(⟨b,off,none⟩:Addr).add n=⟨b,off+n,none⟩:=by unfold Addr.add;split <;> simp_all
theorem Wq{X:Nat->Prop}{w:World}{zs:List Value}(hz:∀v∈zs,v.oneCell'=true):iY X w (zs.map .sc) zs:=by
 refine⟨by simp,fun i s u hs hu=>?_⟩;simp only[bYX,hu,bZH,Option.some.injEq]at hs;subst hs;exact⟨rfl,hz u (bZC hu)⟩
theorem aKE{X:Nat->Prop}{w:World}{zs:List Value}(wd:Option IntKind)(hz:∀v∈zs,v.oneCell'=true):iY X w (zs.map (wideS wd)) zs:=by
 refine⟨by simp,fun i s u hs hu=>?_⟩;simp only[bYX,hu,bZH,Option.some.injEq]at hs;subst hs;have h0:=hz u (bZC hu);unfold wideS;split
 ·exact⟨rfl,h0⟩
 ·split
  ·exact⟨none,0,rfl,bYT _,fun i n hn=>by simp at hn⟩
  ·exact⟨rfl,h0⟩
theorem iY.cells{X:Nat->Prop}{w:World}{cs:List S}{arr:Array Value}(h:iY X w cs arr.toList):zK X w (.cells cs) arr :=
 ⟨by have:=h.1;simp at this;omega,fun i s hs=>by
  have kD:=aU hs;rw[h.1]at kD;obtain⟨u,hu⟩:=bD kD;exact⟨u,by simpa using hu,h.2 i s u hs hu⟩⟩
theorem Li{P:Program}{X:Nat->Prop}{w:World}{t:TypeId}{ti:TI}(hT:Bp P t ti){b off:Nat}{cs:List S}(hc:∀(i:Nat) (s:S),cs[i]?=some s->∃u,w.cell? ⟨b,off+i,none⟩=some u/\oT X w s u)
  {j:Nat} {x:V} (hp:partOf ti cs j=some x) {ρ:Nat->Nat} {hp':Nat->Option kQ}:∃v,(loadVar t ⟨b,off+j,none⟩).run P w=.ok v w/\Gt ρ hp' X w x v/\refsV x=[]:=by
 unfold partOf at hp;unfold loadVar;rw[Sem.run_bind,hT.Rg,Result.andThen_ok];split at hp
 ·rename_i aBW;split at hp
  ·rename_i hle;cases hp;rw[if_pos aBW,Sem.run_bind,hT.run_sizeOf,Result.andThen_ok];have hex:∀i,i<ti.size->∃u,w.cell? ⟨b,off+j+i,none⟩=some u/\∀s,cs[j+i]?=some s->oT X w s u:=by
    intro i hi;obtain⟨s,hs⟩:=bD (l:=cs) (i:=j+i) (by omega);obtain⟨u,hu,hr⟩:=hc (j+i) s hs;refine⟨u,by rw[<-hu];congr 2;omega,fun s' sV=>?_⟩;rw[hs]at sV;cases sV;exact hr
   obtain⟨f,hf⟩:∃f:Nat->Value,∀i,i<ti.size->w.cell? ⟨b,off+j+i,none⟩=some (f i)/\∀s,cs[j+i]?=some s->oT X w s (f i) :=
    ⟨fun i=>if h:i<ti.size then Classical.choose (hex i h)else undef,fun i hi=>by simp only[hi,dif_pos];exact Classical.choose_spec (hex i hi)⟩
   have hl:=run_loadCells_list (P:=P) w ⟨b,off+j,none⟩ ((cAG ti.size).map f) (fun i v hv=>by
    have hi:=aU hv;simp at hi;rw[mH,(hf i hi).1];simpa [hi] using hv)
   simp only[cAH,List.length_range]at hl;rw[Sem.run_bind,hl];refine⟨_,rfl,⟨_,rfl,⟨by simp;omega,fun i s u hs hu=>?_⟩⟩,rfl⟩;have hi:=aU hu;simp at hi;have Xz:u=f i:=by simpa [hi] using hu.symm
   subst Xz;refine(hf i hi).2 s ?_;rw[bYY hi,bZG]at hs;exact hs
  ·cases hp
 ·rename_i aBW;split at hp <;> cases hp;rename_i c bMI;obtain⟨u,hu,hr⟩:=hc j c bMI;refine⟨u,?_,hr,rfl⟩;rw[if_neg (by simpa using aBW),run_load,hu]
theorem List.rB{α:Type}(cs new:List α)(off i:Nat)(h:off+new.length<=cs.length) :
  (cs.take off ++ (new ++ cs.drop (off+new.length)))[i]?=if off<=i/\i<off+new.length then new[i-off]? else cs[i]?:=by
 by_cases h1:i<off
 ·rw[bZZ (by simp;omega),bYY h1,aP]
 ·rw[cAA (by simp;omega)];have e:(cs.take off).length=off:=by simp;omega
  rw[e]
  by_cases h2:i<off+new.length
  ·rw[bZZ (by omega),aW]
  ·rw[cAA (by omega),aP,bZG];congr 1;omega
theorem Wx{X:Nat->Prop}{w:World}{cs new:List S}{arr:Array Value}{aHG:List Value}(h:zK X w (.cells cs) arr)(hn:iY X w new aHG){off:Nat}(hle:off+new.length<=cs.length) :
  zK X w (.cells (setAt cs off new)) (arr.toList.take off ++ (aHG ++ arr.toList.drop (off+aHG.length))).toArray:=by
 have h1:=h.1;have h2:off+aHG.length<=arr.toList.length:=by rw[<-hn.1];simp;omega
 refine⟨by simp[setAt];have:=hn.1;omega,fun i s hs=>?_⟩;unfold setAt at hs;rw[List.rB _ _ _ _ hle]at hs;have e:(arr.toList.take off ++ (aHG ++ arr.toList.drop (off+aHG.length))).toArray[i]?=(arr.toList.take off ++ (aHG ++ arr.toList.drop (off+aHG.length)))[i]?:=by simp
 rw[e,List.rB _ _ _ _ h2,<-hn.1];split at hs
 ·rename_i hi;rw[if_pos hi];have kD:=aU hs;rw[hn.1]at kD;obtain⟨u,hu⟩:=bD kD;exact⟨u,hu,hn.2 _ s u hs hu⟩
 ·rename_i hi;rw[if_neg hi];obtain⟨u,hu,hr⟩:=h.2 i s hs;exact⟨u,by simpa using hu,hr⟩
theorem aAN{X:Nat->Prop}{w:World}{cs new:List S}{vs aHG:List Value}(h:iY X w cs vs)(hn:iY X w new aHG){off:Nat}(hle:off+new.length<=cs.length) :
  iY X w (setAt cs off new) (vs.take off ++ (aHG ++ vs.drop (off+aHG.length))):=by
 have h1:=h.1;have h2:=hn.1;refine⟨by unfold setAt;simp;omega,fun i s u hs hu=>?_⟩;unfold setAt at hs;rw[List.rB cs new off i hle]at hs;rw[List.rB vs aHG off i (by omega)]at hu
 by_cases hi:off<=i/\i<off+new.length
 ·rw[if_pos hi]at hs;rw[aW]at hu;exact hn.2 _ s u hs hu
 ·rw[if_neg hi]at hs;rw[aP]at hu;exact h.2 _ s u hs hu
end AI
namespace AI
open Go Go.RowKit
def oO(al:Nat->Prop)(id:Nat):Nat->Prop:=fun i=>al i\/(id<=i/\i<id+8)
section
variable {P:Program} {E:Env} {X:Nat->Prop} {w0:Old} {ρ:Nat->Nat} {al:Nat->Prop} {fr:Nat->A} {hp:Nat->Option kQ} {a:Act} {w:World} {o:Oper} {id:Nat} {x:A} {u:qR}
def jT(P:Program)(E:Env)(X:Nat->Prop)(w0:Old)(al:Nat->Prop)(fr:Nat->A)(hp:Nat->Option kQ)(a:Act)(w:World)(o:Oper)(id:Nat)(x:A)(u:qR):Prop :=
 ∃ρ' v w',((execOp a.eval o).run P w=.ok (.value v) w'\/((execOp a.eval o).run P w=.ok .skip w'/\v=undef))/\jJ E X w0 ρ' (oO al id) (Ed o x fr) (applyUps u hp) (a.put o.dst v) w'
theorem jJ.more(h:jJ E X w0 ρ al fr hp a w)(id:Nat):jJ E X w0 ρ (oO al id) fr hp a w :=
 { fr:=h.fr,sz:=h.sz,nod:=h.nod,blk:=h.blk,inj:=h.inj,alh:=fun i b hb=>.inl (h.alh i b hb),alr:=fun t i hi=>.inl (h.alr t i hi),below:=h.below,x0:=h.x0,glob:=h.glob,mg:=h.mg,al0:=fun i hi=>.inl (h.al0 i hi),wL:=h.wL }
theorem cO(h:jJ E X w0 ρ al fr hp a w)(hd:jI E.nt o=true){v:Value}(gR:(execOp a.eval o).run P w=.ok (.value v) w)(hx:xE ρ hp (XO X ρ hp) w x v)(bDT:∀i∈refs x,al i) :
  jT P E X w0 al fr hp a w o id x [] :=
 ⟨ρ,v,w,.inl gR,(h.more id).pure hd hx (fun i hi=>.inl (bDT i hi))⟩
theorem nD(v:Value):refs (Df v)=[]:=rfl
theorem Yt(h:jJ E X w0 ρ al fr hp a w)(hd:jI E.nt o=true){y:Operand}(ho:o.op=.move y\/o.op=.assign y)(he:qV E id o (evA E fr) hp=some (x,u)):jT P E X w0 al fr hp a w o id x u:=by
 have h1:=h.ev y;rcases ho with ho |ho
 all_goals
  unfold qV effK at he;rw[ho]at he;cases he;exact cO h hd (v:=a.eval y) (by unfold execOp;rw[ho];rfl) h1.1 h1.2
theorem aOP(h:jJ E X w0 ρ al fr hp a w)(hd:jI E.nt o=true){c y z:Operand}(ho:o.op=.pick c y z)(he:qV E id o (evA E fr) hp=some (x,u)):jT P E X w0 al fr hp a w o id x u:=by
 have hc:=(h.ev c).1;have hy:=h.ev y;have hz:=h.ev z;have gR:∀t,a.eval c=.bool t->(execOp a.eval o).run P w=.ok (.value (if t then a.eval y else a.eval z)) w:=by
  intro t ht;unfold execOp;rw[ho];simp[ht,asBool]
 unfold qV effK at he;rw[ho]at he;simp only at he;split at he
 ·rename_i t bMF;rw[bMF]at hc;have aZD:a.eval c=.bool t:=hc.1;split at he
  ·rename_i p q Bd Pu;cases he;rw[Bd]at hy;rw[Pu]at hz;have e1:a.eval y=.bool p:=hy.1.1;have e2:a.eval z=.bool q:=hz.1.1;refine cO h hd (gR t aZD) ?_ (by simp[nD]);rw[e1,e2];cases t <;> exact⟨rfl,rfl⟩
  ·cases t <;> cases he
   ·exact cO h hd (gR false aZD) (by simpa using hz.1) hz.2
   ·exact cO h hd (gR true aZD) (by simpa using hy.1) hy.2
 ·cases he
theorem rL(id:Nat):oO al id id:=.inr ⟨bYT _,by omega⟩
theorem Mo(e:TypeId)(v:Value):(newVar e v).run P w=.ok ⟨w.heap.size,0,none⟩ (w.alloc (.cells v.cells e)):=rfl
theorem aIM(h:jJ E X w0 ρ al fr hp a w)(hd:jI E.nt o=true)(hT:oS P E.T)(wQ:∀j,j<8->¬al (id+j)){e:TypeId}(ho:o.op=.alloc e)(he:qV E id o (evA E fr) hp=some (x,u)):jT P E X w0 al fr hp a w o id x u:=by
 unfold qV effK at he;rw[ho]at he;simp only at he;split at he
 ·rename_i ti yE;cases he;have ht:=hT e ti yE;obtain⟨z,hz,Qe⟩:=ht.aLQ (w:=w);have Ka:zK (XO X ρ hp) w (.cells (ti.zero.map (wideS E.wide))) z.cells:=by
   refine iY.cells ?_;rw[Qe];exact aKE E.wide ht.zo
  have h1:=h.alloc (id:=id) (al':=oO al id) (wQ 0 (by omega)) (fun _ h=>.inl h) (rL id) e _ _ Ka;refine⟨_,.pointer (some ⟨w.heap.size,0,none⟩),_,.inl ?_,h1.pure hd (x:=.v (.one (.ptr id 0))) ?_ ?_⟩
  ·unfold execOp;rw[ho];simp only[Instr.alloc,Sem.run_bind,hz,Result.andThen_ok,Sem.run_pure,Mo]
  ·show _=_;rw[bR]
  ·intro i hi;simp only[refs,refsV,refsL,bZL]at hi;subst hi;exact rL i
 ·cases he
theorem aUA(h:jJ E X w0 ρ al fr hp a w)(hd:jI E.nt o=true)(wQ:∀j,j<8->¬al (id+j)){e:TypeId}{y:Operand}(ho:o.op=.box e y)(he:qV E id o (evA E fr) hp=some (x,u)):jT P E X w0 al fr hp a w o id x u:=by
 unfold qV effK at he;rw[ho]at he;simp only at he;split at he
 ·rename_i ti cs u1 yE Up;split at he <;> cases he;obtain⟨hu,Ka⟩:=xD h (h.ev y).1 Up;have h0:=h.cons hu;have h1:=h0.alloc (id:=id) (al':=oO al id) (wQ 0 (by omega)) (fun _ h=>.inl h) (rL id) e (.cells cs) _ Ka.cells;unfold jT;rw[lF];refine⟨_,.pointer (some ⟨w.heap.size,0,none⟩),_,.inl ?_,h1.pure hd (x:=.v (.one (.ptr id 0))) ?_ ?_⟩
  ·unfold execOp;rw[ho];simp only[Instr.box,Sem.run_bind,Result.andThen_ok,Sem.run_pure,Mo]
  ·show _=_;rw[bR]
  ·intro i hi;simp only[refs,refsV,refsL,bZL]at hi;subst hi;exact rL i
 ·cases he
theorem aOQ(h:jJ E X w0 ρ al fr hp a w)(hd:jI E.nt o=true)(hT:oS P E.T){t:TypeId}{y:Operand}(ho:o.op=.load t y)(he:qV E id o (evA E fr) hp=some (x,u)):jT P E X w0 al fr hp a w o id x u:=by
 have hy:=(h.ev y).1;have gR:∀ad v,a.eval y=.pointer (some ad)->(loadVar t ad).run P w=.ok v w->(execOp a.eval o).run P w=.ok (.value v) w:=by
  intro ad v h1 h2;unfold execOp;rw[ho];simp only[h1,Instr.loadAt,Instr.sureAddr,Sem.run_bind,Sem.run_pure,Result.andThen_ok,h2]
 unfold qV effK at he;rw[ho]at he;simp only at he;split at he
 ·rename_i ti yE;have ht:=hT t ti yE;split at he
  ·rename_i i off jD;rw[jD]at hy;have hy:a.eval y=.pointer (some ⟨ρ i,off,none⟩):=hy;split at he
   ·rename_i e cs hb;obtain⟨_,arr,hg,hc⟩:=h.blk i _ hb;split at he <;> cases he;rename_i v hv;obtain⟨v',h1,h2,h3⟩:=Li (P:=P) ht (b:=ρ i) (off:=0) (cs:=cs) (fun j s hs=>by
     obtain⟨u,hu,hr⟩:=hc.2 j s hs;exact⟨u,by rw[cell_of_row w (ρ i) _ arr e (0,0) hg];simpa using hu,hr⟩) hv (ρ:=ρ) (hp':=hp)
    rw[bYV]at h1;exact cO h hd (gR _ _ hy h1) h2 (by simp[refs,h3])
   ·cases he
  ·rename_i i j jD;rw[jD]at hy;obtain⟨hy,kD⟩:=hy;split at he
   ·rename_i e k ns hb aBW;cases he;have hj:=kD _ k ns hb rfl;have hc:=h.yZ hb (bZK hj);refine cO h hd (v:=.int k (ns.getD j 0)) (gR _ _ hy ?_) ⟨rfl,rfl⟩ (by simp[nD]);unfold loadVar;rw[Sem.run_bind,ht.Rg,Result.andThen_ok,if_neg (by simp[aBW]),run_load,hc];simp[cAN,hj]
   ·cases he
  ·rename_i cs jD;rw[jD]at hy;obtain⟨b,off,hy,hc⟩:=hy;split at he <;> cases he;rename_i v hv;obtain⟨v',h1,h2,h3⟩:=Li (P:=P) ht (b:=b) (off:=off) (cs:=cs) (fun j s hs=>by
    obtain⟨_,_,u,hu,hr⟩:=hc j s hs;exact⟨u,hu,hr⟩) hv (ρ:=ρ) (hp':=hp)
   rw[bZR]at h1;exact cO h hd (gR _ _ hy h1) h2 (by simp[refs,h3])
  ·rename_i z jD;rw[jD]at hy;obtain⟨hz,b,off,hy,hb,hx,hc⟩:=hy;split at he <;> cases he;rename_i v hv;obtain⟨v',h1,h2,h3⟩:=Li (P:=P) ht (b:=b) (off:=off) (cs:=[.sc z]) (fun j s hs=>by
    match j with
    |0=>simp at hs;subst hs;exact⟨z,hc,⟨rfl,hz⟩⟩
    |j+1=>simp at hs) hv (ρ:=ρ) (hp':=hp)
   rw[bZR]at h1;exact cO h hd (gR _ _ hy h1) h2 (by simp[refs,h3])
  ·cases he
 ·cases he
theorem Ge(h:jJ E X w0 ρ al fr hp a w):∀{Ii:List Operand} {xs:List Value} {u:qR},capsOf hp (Ii.map (evA E fr))=some (xs,u) ->
  Cons u/\(∀U,Cons U->(∀p∈u,p∈U)->Sr (XO X ρ (applyUps U hp)) w xs (Ii.map a.eval))
 | [],xs,u,hc=>by cases hc;exact⟨(fun p hp=>by cases hp),fun _ _ _=>⟨rfl,fun i x p hx=>by simp at hx⟩⟩
 |c :: Ii,xs,u,hc=>by
  rw[bYS]at hc;have jD:=(h.ev c).1;generalize hA:evA E fr c=A0 at hc jD;unfold capsOf at hc;split at hc
  ·rename_i he;cases he
  ·rename_i i r he;cases he;split at hc
   ·rename_i e x bRX u' hb hr;cases hc;obtain⟨hu,Hy⟩:=Ge h hr;have bFS:Cons ((i,none) :: u'):=fun p hp=>by
     rcases List.mem_cons.1 hp with rfl |hp
     ·rfl
     ·exact hu p hp
    refine⟨bFS,fun U hU aHP=>?_⟩;obtain⟨hl,hp⟩:=Hy U hU (fun p hp=>aHP p (bZE _ hp));refine⟨by simp[hl],fun j y p hy hp'=>?_⟩
    match j with
    |0 =>
     simp at hy hp';subst hy;subst hp';have hv:a.eval c=.pointer (some ⟨ρ i,0,none⟩):=jD;obtain⟨_,arr,hg,Up⟩:=h.blk i _ hb;obtain⟨v,aBK,bUH⟩:=Up.2 0 (.sc x) rfl;obtain⟨rfl,Np⟩:=bUH;exact⟨Np,ρ i,0,hv,h.jK hb,h.Sb hb hU (aHP _ (by simp)),by rw[cell_of_row w (ρ i) _ arr e (0,0) hg];exact aBK⟩
    |j+1=>exact hp j y p (by simpa using hy) (by simpa using hp')
   ·cases hc
  ·cases hc
theorem Va(h:jJ E X w0 ρ al fr hp a w)(hd:jI E.nt o=true){f:FuncId}{Ii:Array Operand}(ho:o.op=.makeFunc (.func f) ⟨[]⟩ Ii)(he:qV E id o (evA E fr) hp=some (x,u)):jT P E X w0 al fr hp a w o id x u:=by
 obtain⟨Ii⟩:=Ii;unfold qV effK at he;rw[ho]at he;simp only at he;split at he <;> cases he;rename_i xs hc;obtain⟨hu,Hy⟩:=Ge h hc;have h0:=h.cons hu;unfold jT;refine⟨_,.func (.func f) #[] (Ii.map a.eval).toArray,_,.inl ?_,(h0.more id).pure hd (x:=.v (.one (.s (.Vh f xs)))) ⟨_,rfl,Hy u hu fun _ h=>h⟩ (by intro i hi;simp[refs,refsV,refsL]at hi)⟩;unfold execOp;rw[ho];simp[Instr.makeFunc]
theorem lE{g:Nat}{arr:Array Value}{e:TypeId}{f:Nat×Nat}(h:w.heap[g]?=some (.cells arr e f)):lV w g=arr.size:=by unfold lV;rw[h]
theorem aIG(h:jJ E X w0 ρ al fr hp a w)(hd:jI E.nt o=true)(hT:oS P E.T){t:TypeId}{y z:Operand}(ho:o.op=.store t y z)(he:qV E id o (evA E fr) hp=some (x,u)):jT P E X w0 al fr hp a w o id x u:=by
 have hy:=(h.ev y).1;have hz:=(h.ev z).1;have gR:∀ad w',a.eval y=.pointer (some ad)->(storeVar t ad (a.eval z)).run P w=.ok () w'->(execOp a.eval o).run P w=.ok .skip w':=by
  intro ad w' h1 h2;unfold execOp;rw[ho];simp only[h1,Instr.storeAt,Instr.sureAddr,Sem.run_bind,Sem.run_pure,Result.andThen_ok,h2]
 unfold qV effK at he;rw[ho]at he;simp only at he;split at he
 ·rename_i ti yE;have ht:=hT t ti yE;split at he
  ·rename_i i off jD;rw[jD]at hy;have hy:a.eval y=.pointer (some ⟨ρ i,off,none⟩):=hy;split at he
   ·rename_i e cs new u1 hb bWC;split at he <;> cases he;rename_i Nv;obtain⟨Jj,bLM,bTX⟩:=Nv;obtain⟨hu,Ka⟩:=xD h hz bWC;have h0:=h.cons hu;have hb0:applyUps u1 hp i=some ⟨e,.cells cs⟩:=by
     have:∀(u:qR) (hp:Nat->Option kQ),(u.all fun p=>p.1 !=i)=true->applyUps u hp i=hp i:=by
      intro u
      induction u with
      |nil=>intros;rfl
      |cons p u ih =>
       intro hp Bg;obtain⟨j,c⟩:=p;simp only[List.all_cons,bYZ,bne_iff_ne]at Bg;rw[applyUps,ih _ Bg.2,gB _ _ (fun e=>Bg.1 e.symm)]
     rw[this u1 hp bTX];exact hb
    obtain⟨_,arr,hg,hc⟩:=h0.blk i _ hb0;have rT:cs.length<=arr.size:=hc.1;have bPF:(a.eval z).cells.size=new.length:=by have:=Ka.1;simpa using this.symm
    have Np:∀v∈(a.eval z).cells.toList,v.oneCell'=true:=by
     intro v hv;obtain⟨k,hk⟩:=bZT hv;obtain⟨s,hs⟩:=bD (l:=new) (i:=k) (by rw[Ka.1];exact aU hk);exact(Ka.2 k s v hs hk).one
    have Qf:=run_storeCells_at P (ρ i) off e (a.eval z).cells.toList 0 arr w hg (by simp;omega) Np;simp only[bZR]at Qf;have h1:=h0.setRow hb0 (.cells (setAt cs off new)) (arr.toList.take off ++ ((a.eval z).cells.toList ++ arr.toList.drop (off+(a.eval z).cells.toList.length))).toArray
     ⟨fun k ns e=>(by cases e),fun Ok e=>by cases e;exact⟨cs,rfl,by simp[setAt];omega⟩⟩ (by rw[lE hg];simp;omega) (Wx hc Ka bLM)
    unfold jT;rw[lF];refine⟨ρ,undef,_,.inr ⟨gR _ _ hy ?_,rfl⟩,(h1.more id).pure hd (x:=.any) trivial (by simp[refs])⟩;unfold storeVar;rw[Sem.run_bind,ht.run_sizeOf,Result.andThen_ok,if_neg (by rw[bPF,Jj];simp),Qf];simp[cAO]
   ·cases he
  ·rename_i i j jD;rw[jD]at hy;obtain⟨hy,kD⟩:=hy;split at he
   ·rename_i e k ns k' n hb bVW;split at he <;> cases he;rename_i hk;obtain⟨rfl,Zz⟩:=hk;have hj:=kD _ k ns hb rfl;rw[bVW]at hz;have hz:a.eval z=.int k n:=hz.1;obtain⟨_,arr,hg,hc⟩:=h.blk i _ hb;have bPZ:j<arr.size:=bZQ hj hc.1;have Qf:=run_storeCells_at P (ρ i) j e [.int k n] 0 arr w hg (by simp;omega) (by simp[Value.oneCell']);simp only[bZR]at Qf;have bKU:(arr.toList.take j ++ [Value.int k n] ++ arr.toList.drop (j+[Value.int k n].length)).toArray=arr.setIfInBounds j (.int k n):=by
     apply Array.ext';simp only[Array.toList_setIfInBounds,List.length_cons,List.length_nil];rw[List.set_eq_take_append_cons_drop,if_pos (by simpa using bPZ)];simp
    rw[bKU]at Qf;have h1:=h.setRow hb (.ints k (ns.set j n)) (arr.setIfInBounds j (.int k n)) ⟨fun k1 Zw e=>(by cases e;exact⟨k,ns,rfl,by simp⟩),fun Ok e=>(by cases e)⟩ (by rw[lE hg];simp) (by
     refine⟨by simpa using hc.1,fun l m hl=>?_⟩;rw[List.getElem?_set]at hl;rw[Array.getElem?_setIfInBounds];split at hl
     ·rename_i aNH;subst aNH;rw[if_pos rfl,if_pos bPZ];first | (cases hl;rfl) | (split at hl <;> cases hl;rfl)
     ·rename_i aNH;rw[if_neg aNH];exact hc.2 l m hl)
    refine⟨ρ,undef,_,.inr ⟨gR _ _ hy ?_,rfl⟩,(h1.more id).pure hd (x:=.any) trivial (by simp[refs])⟩;unfold storeVar;rw[Sem.run_bind,ht.run_sizeOf,Result.andThen_ok,hz,if_neg (by simp[Value.cells,Zz])];exact Qf
   ·cases he
  ·cases he
 ·cases he
theorem Gk{u:qR}(hu:Cons u)(hp:Nat->Option kQ)(i:Nat):applyUps u hp i=if i∈u.map (·.1)then none else hp i:=by
 induction u generalizing hp with
 |nil=>rfl
 |cons p u ih =>
  obtain⟨j,c⟩:=p;have hc:c=none:=hu (j,c) (by simp);subst hc;rw[applyUps,ih (fun p hp=>hu p (by simp[hp]))]
  by_cases bBU:i=j
  ·subst bBU;rw[bR];simp
  ·rw[gB _ _ bBU];simp only[bYS,cAB,bBU,false_or]
theorem iY.Si{cs:List S}{vs:List Value}{u1 u2:qR}(h1:Cons u1)(h2:Cons u2)(hs:∀i,i∈u1.map (·.1)->i∈u2.map (·.1))(h:iY (XO X ρ (applyUps u1 hp)) w cs vs):iY (XO X ρ (applyUps u2 hp)) w cs vs:=by
 refine h.later ⟨bYT _,fun b _ hx=>⟨rfl,fun ho=>hx (ho.imp (fun h=>h) ?_)⟩⟩;rintro ⟨i,bl,hb,hr⟩;refine⟨i,bl,?_,hr⟩;rw[Gk h2]at hb;rw[Gk h1];split at hb
 ·cases hb
 ·rename_i hn;rw[if_neg (fun h=>hn (hs i h))];exact hb
theorem Ym(off:Nat):∀(vs:List Value) (k:Nat) (arr:Array Value),off+k+vs.length<=arr.size ->
  ((vs.zipIdx k).foldl (fun cs p=>cs.setIfInBounds (off+p.2) p.1) arr).toList=arr.toList.take (off+k) ++ vs ++ arr.toList.drop (off+k+vs.length)
 | [],k,arr,_=>by simp
 |v :: vs,k,arr,h=>by
  simp only[List.zipIdx_cons,List.foldl_cons];rw[Ym off vs (k+1) (arr.setIfInBounds (off+k) v) (by simp at h ⊢;omega)];simp only[Array.toList_setIfInBounds];have:=list_seg_step arr.toList (off+k) v vs (by simp at h ⊢;omega);simpa [Nat.add_assoc] using this
theorem mR{R:Type}(hp:Nat->Option kQ)(place:Nat->Option (Nat×Nat))(ev:Operand->A)(parts:List (Nat×Operand))(cs:List S)(u:qR)(K:List S->qR->Option R) :
  fillK hp place ev parts cs u K=(fillK hp place ev parts cs u (fun cs u=>some (cs,u))).bind fun r=>K r.1 r.2:=by
 induction parts generalizing cs u with
 |nil=>rfl
 |cons p rest ih =>
  obtain⟨i,y⟩:=p;simp only[fillK];split
  ·split
   ·exact ih _ _
   ·rfl
  ·rfl
theorem yS(h:jJ E X w0 ρ al fr hp a w)(place:Nat->Option (Nat×Nat)):∀(parts:List (Nat×Operand)) (cs:List S) (u:qR) (arr:Array Value) (Ok:List S) (u':qR),
  Cons u->iY (XO X ρ (applyUps u hp)) w cs arr.toList->fillK hp place (evA E fr) parts cs u (fun cs u=>some (cs,u))=some (Ok,u') ->
  Cons u'/\∃oK,Instr.fill place arr (parts.map fun p=>(p.1,a.eval p.2))=some oK/\iY (XO X ρ (applyUps u' hp)) w Ok oK.toList/\oK.size=arr.size
 | [],cs,u,arr,Ok,u',hu,hr,he=>by cases he;exact⟨hu,arr,rfl,hr,rfl⟩
 | (i,y) :: rest,cs,u,arr,Ok,u',hu,hr,he=>by
  simp only[fillK]at he;split at he
  ·rename_i off size new u1 Rt bWD;split at he
   ·rename_i Nv;obtain⟨aMY,hn⟩:=xD h (h.ev y).1 bWD;have rT:(a.eval y).cells.size=size:=by have:=hn.1;simp at this;omega
    have hle:off+(a.eval y).cells.size<=arr.size:=by have:=hr.1;simp at this;omega
    have bME:Cons (u ++ u1):=fun p hp=>(List.mem_append.1 hp).elim (hu p) (aMY p)
    have bUI:iY (XO X ρ (applyUps (u ++ u1) hp)) w cs arr.toList:=hr.Si hu bME (fun i hi=>by simp only[bZU,bZW];exact .inl hi);have aHS:iY (XO X ρ (applyUps (u ++ u1) hp)) w new (a.eval y).cells.toList:=hn.Si aMY bME (fun i hi=>by simp only[bZU,bZW];exact .inr hi);have aVY:=aAN bUI aHS Nv.2;have bFN:=Ym off (a.eval y).cells.toList 0 arr (by simpa using hle);obtain⟨aCN,aWJ⟩:∃aCN,aCN=(a.eval y).cells.zipIdx.foldl (fun cs p=>cs.setIfInBounds (off+p.2) p.1) arr:=⟨_,rfl⟩;have Jj:aCN.toList=arr.toList.take off ++ ((a.eval y).cells.toList ++ arr.toList.drop (off+(a.eval y).cells.toList.length)):=by
     rw[aWJ,<-Array.foldl_toList,Array.toList_zipIdx,bFN];simp[cAO]
    rw[<-Jj]at aVY;have bKO:aCN.size=arr.size:=by
     have:aCN.toList.length=arr.toList.length:=by rw[Jj];simp;omega
     simpa using this
    obtain⟨bMD,oK,hf,Ka,hs⟩:=yS h place rest (setAt cs off new) (u ++ u1) aCN Ok u' bME aVY he;refine⟨bMD,oK,?_,Ka,hs.trans bKO⟩;rw[bYS,Instr.fill,Rt];simp only;rw[if_neg (by simp;omega)];have e:(Array.foldl (fun cs (x:Value×Nat)=>match x with | (c,j)=>cs.setIfInBounds (off+j) c) arr (a.eval y).cells.zipIdx)=aCN:=aWJ.symm;rw[e];exact hf
   ·cases he
  ·cases he
theorem Aw{α β:Type}{f:α->Option β}:∀{l:List α} {r:List β},l.mapM f=some r->r.length=l.length
 | [],r,h=>by simp at h;subst h;rfl
 |x :: l,r,h=>by
  rw[cAC]at h;simp only[cAY,cAZ,cBA,Option.some.injEq]at h;obtain⟨y,_,ys,bTK,rfl⟩:=h;simp[Aw bTK]
theorem aIK(h:jJ E X w0 ρ al fr hp a w)(hd:jI E.nt o=true)(hT:oS P E.T){t:TypeId}{parts:Array (Nat×Operand)}(ho:o.op=.build t parts)(he:qV E id o (evA E fr) hp=some (x,u)):jT P E X w0 al fr hp a w o id x u:=by
 have fin:∀(oK:Array Value) cs u,(execOp a.eval o).run P w=.ok (.value (.agg oK)) w->Cons u->iY (XO X ρ (applyUps u hp)) w cs oK.toList->jT P E X w0 al fr hp a w o id (.v (.agg cs)) u:=by
  intro oK cs u gR hu Ka;exact⟨ρ,.agg oK,w,.inl gR,((h.cons hu).more id).pure hd ⟨oK,rfl,Ka⟩ (by simp[refs,refsV])⟩
 have hex:∀r,(Instr.build t (parts.map fun p=>(p.1,a.eval p.2))).run P w=.ok r w->(execOp a.eval o).run P w=.ok (.value r) w:=by
  intro r hr;unfold execOp;rw[ho];simp only[Sem.run_bind];rw[hr];rfl
 unfold qV effK at he;rw[ho]at he;simp only at he;split at he
 ·rename_i size bytes zero fs yE;have ht:=hT t _ yE;obtain⟨i,hi,_,_,z,hz,Qe⟩:=ht.i;obtain⟨d,wH,fields,rfl,bBX,hf⟩:=ht.d;rw[mR]at he;obtain⟨⟨cs,u2⟩,Yi,he⟩:=Option.bind_eq_some_iff.1 he;cases he;obtain⟨hu,oK,h1,h2,h3⟩:=yS h _ parts.toList _ [] z.cells cs u2 (fun p hp=>by cases hp) (by rw[Qe];exact Wq ht.zo) Yi;refine fin oK cs u2 (hex _ ?_) hu h2;obtain⟨wX,Rt,bUO⟩:∃wX:List (Nat×Nat),fields.toList.mapM (fun f=>(P.info? f.type).map fun i=>(f.offset,i.size))=some wX/\∀(k:Nat) (p:Nat×Nat),wX[k]?=some p->(fs[k]?).map (fun(f:Nat×Nat×Bool)=>(f.1,f.2.1))=some p:=by
   have:∀(l:List Field) (s:Nat),(∀(k:Nat) (f:Field),l[k]?=some f->∃fi fd,P.info? f.type=some fi/\P.underlying f.type=some fd/\fs[s+k]?=some (f.offset,fi.size,tN fd)) ->
     ∃wX:List (Nat×Nat),l.mapM (fun f=>(P.info? f.type).map fun i=>(f.offset,i.size))=some wX/\∀(k:Nat) (p:Nat×Nat),wX[k]?=some p->(fs[s+k]?).map (fun(f:Nat×Nat×Bool)=>(f.1,f.2.1))=some p:=by
    intro l
    induction l with
    |nil=>intro s _;exact⟨[],rfl,fun k p hk=>by simp at hk⟩
    |cons f l ih =>
     intro s hl;obtain⟨fi,fd,e1,e2,e3⟩:=hl 0 f rfl;obtain⟨pl,p1,p2⟩:=ih (s+1) (fun k g hk=>by have:=hl (k+1) g (by simpa using hk);rwa [show s+(k+1)=s+1+k by omega]at this);refine⟨(f.offset,fi.size) :: pl,by simp[cAC,e1,p1],fun k p hk=>?_⟩
     match k with
     |0=>simp at hk;subst hk;simp at e3;simp[e3]
     |k+1=>simp at hk;have:=p2 k p hk;rwa [show s+1+k=s+(k+1) by omega]at this
   obtain⟨pl,p1,p2⟩:=this fields.toList 0 (fun k f hk=>by rw[bYV];exact hf k f (by simpa using hk));exact⟨pl,p1,fun k p hk=>by have:=p2 k p hk;rwa [bYV]at this⟩
  refine run_build w t _ oK ?_;unfold Program.built;simp only[hi,wH,hz,Rt,Array.toList_map];have Ru:∀(ps:List (Nat×Value)) (arr:Array Value) r,Instr.fill (fun i=>(fs[i]?).map fun(f:Nat×Nat×Bool)=>(f.1,f.2.1)) arr ps=some r->Instr.fill (wX.toArray[·]?) arr ps=some r:=by
   intro ps
   induction ps with
   |nil=>intro arr r h;exact h
   |cons p ps ih =>
    intro arr r h;obtain⟨i,v⟩:=p;unfold Instr.fill at h ⊢;cases hq:wX[i]? with
    |none =>
     have h1:wX.length=fields.size:=by simpa using (Aw Rt)
     have h2:fs[i]?=none:=cAP (by have:=List.getElem?_eq_none_iff.1 hq;omega);simp[h2]at h
    |some q =>
     have:=bUO i q hq;simp only[this]at h;have bUL:wX.toArray[i]?=some q:=by simp[hq]
     simp only[bUL];obtain⟨o1,s1⟩:=q;simp only at h ⊢;split at h
     ·cases h
     ·rename_i hc;rw[if_neg hc];exact ih _ _ h
  have e:parts.toList.map (fun p=>(p.1,a.eval p.2))=parts.toList.map (fun x=>(x.fst,a.eval x.snd)):=rfl;rw[e]at h1;exact Ru _ _ _ h1
 ·rename_i size bytes zero len qP g yE;have ht:=hT t _ yE;obtain⟨i,hi,_,_,z,hz,Qe⟩:=ht.i;obtain⟨d,wH,e,ei,ed,rfl,aFN,aTH,_,_⟩:=ht.d;rw[mR]at he;obtain⟨⟨cs,u2⟩,Yi,he⟩:=Option.bind_eq_some_iff.1 he;cases he;obtain⟨hu,oK,h1,h2,h3⟩:=yS h _ parts.toList _ [] z.cells cs u2 (fun p hp=>by cases hp) (by rw[Qe];exact Wq ht.zo) Yi;refine fin oK cs u2 (hex _ ?_) hu h2;refine run_build w t _ oK ?_;unfold Program.built;simp only[hi,wH,hz,aFN,Array.toList_map];subst aTH;exact h1
 ·cases he
end
end AI
namespace AI
open Go Go.RowKit
section
variable {P:Program} {E:Env} {X:Nat->Prop} {w0:Old} {ρ:Nat->Nat} {al:Nat->Prop} {fr:Nat->A} {hp:Nat->Option kQ} {a:Act} {w:World} {o:Oper} {id:Nat} {x:A} {u:qR}
theorem Jw(w:World)(t e:TypeId)(len:Nat)(parts:Array (Nat×Value))(cells:Array Value)(ie:TypeInfo)(z:Value)
  (hu:P.underlying t=some (.slice e)) (bQA:P.info? e=some ie) (hz:ie.zero=some z) (aYI:¬len*ie.size>2^24)
  (h:Instr.fill (fun i=>some (i*ie.size,ie.size)) ((Array.range (len*ie.size)).map (z.cells[·%z.cells.size]!)) parts.toList=some cells) :
  (Instr.buildSlice t len parts).run P w=.ok (.slice (some ⟨w.heap.size,0,none⟩) len len) (w.alloc (.cells cells e)):=by
 by_cases rU:len*ie.size=0
 ·rw[rU]at h;have hr:∀f:Nat->Value,(Array.range 0).map f=#[]:=fun f=>by rw[show Array.range 0=(#[]:Array Nat)from by simp];simp
  rw[hr]at h;simp[Instr.buildSlice,run_underlying hu,sizeOf,typeInfo,bQA,rU,hr,h,newRow]
 ·simp[Instr.buildSlice,run_underlying hu,sizeOf,typeInfo,zeroValue,bQA,hz,aYI,rU,h,newRow]
theorem Gl{k:IntKind}:∀{cs:List S} {ns:List Int},allInts k cs=some ns->cs=ns.map fun n=>.sc (.int k n)
 | [],ns,h=>by cases h;rfl
 | .sc (.int k' n) :: r,ns,h=>by
  simp only[allInts]at h;split at h
  ·rename_i hk;subst hk;obtain⟨ms,aTD,rfl⟩:=Option.map_eq_some_iff.1 h;rw[Gl aTD];rfl
  ·cases h
 | .ints _ _ :: _,_,h=>by cases h
 | .bot :: _,_,h=>by cases h
 | .sc (.bool _) :: _,_,h=>by cases h
 | .sc (.float _ _) :: _,_,h=>by cases h
 | .sc (.complex _ _ _) :: _,_,h=>by cases h
 | .sc (.string _) :: _,_,h=>by cases h
 | .sc (.pointer _) :: _,_,h=>by cases h
 | .sc (.slice _ _ _) :: _,_,h=>by cases h
 | .sc (.map _) :: _,_,h=>by cases h
 | .sc (.chan _) :: _,_,h=>by cases h
 | .sc (.func _ _ _) :: _,_,h=>by cases h
 | .sc .nilFunc :: _,_,h=>by cases h
 | .sc (.iface _ _) :: _,_,h=>by cases h
 | .sc .nilIface :: _,_,h=>by cases h
 | .sc (.agg _) :: _,_,h=>by cases h
 | .sc (.tuple _) :: _,_,h=>by cases h
theorem Qd{Y:Nat->Prop}{k:IntKind}{ns:List Int}{arr:Array Value}(h:iY Y w (ns.map fun n=>.sc (.int k n)) arr.toList):zK Y w (.ints k ns) arr/\arr.size=ns.length:=by
 have hl:ns.length=arr.size:=by have:=h.1;simpa using this
 refine⟨⟨by omega,fun i n hn=>?_⟩,hl.symm⟩;obtain⟨v,hv⟩:=bD (l:=arr.toList) (i:=i) (by have:=aU hn;simp;omega);have:=(h.2 i (.sc (.int k n)) v (by simp[hn]) hv).1;subst this;simpa using hv
theorem Ng{n:Nat}(h:n<=16777216):n<=maxLen:=by unfold maxLen;omega
theorem Oh(h:jJ E X w0 ρ al fr hp a w)(hd:jI E.nt o=true)(hT:oS P E.T)(wQ:∀j,j<8->¬al (id+j)){t:TypeId}{len:Nat}{parts:Array (Nat×Operand)}(ho:o.op=.buildSlice t len parts)(he:qV E id o (evA E fr) hp=some (x,u)):jT P E X w0 al fr hp a w o id x u:=by
 unfold qV effK at he;rw[ho]at he;simp only at he;split at he
 ·rename_i s0 b0 z0 e yE;have ht:=hT t _ yE;obtain⟨d,wH,Ew⟩:=ht.d;have Ew:d=.slice e:=Ew;subst Ew;split at he
  ·rename_i size bytes zero kind Ps;have No:=hT e _ Ps;obtain⟨ie,hi,rT,_,z,hz,Qe⟩:=No.i;have rT:ie.size=size:=rT;have Qe:z.cells.toList=zero:=Qe;have bOV:zero.length=size:=No.zl;split at he
   ·rename_i Nv;obtain⟨Zz,Pt⟩:=Nv;rw[mR]at he;obtain⟨⟨cs,u2⟩,Yi,he⟩:=Option.bind_eq_some_iff.1 he;simp only at he;have bFH:iY (XO X ρ (applyUps [] hp)) w ((cAG (len*size)).map fun i=>S.sc (zero.getD (i%size) undef)) ((Array.range (len*ie.size)).map (z.cells[·%z.cells.size]!)).toList:=by
     refine⟨by simp[rT],fun i s v hs hv=>?_⟩;have hi:=aU hs;simp at hi;have aYC:z.cells.size=size:=by rw[<-bOV,<-Qe];simp
     have hm:i%size<zero.length:=by rw[bOV];exact Nat.mod_lt _ Pt
     simp[hi]at hs;subst hs;have aYP:i%size<z.cells.size:=by rw[aYC];exact Nat.mod_lt _ Pt
     simp[rT,hi,aYC]at hv;have e1:z.cells[i%size]! = zero[i%size]:=by
      rw[getElem!_pos z.cells (i%size) aYP];simp[<-Qe]
     rw[e1]at hv;subst hv;have e2:zero[i%size]?.getD undef=zero[i%size]:=by simp[hm]
     rw[e2];exact⟨rfl,No.zo _ (List.getElem_mem hm)⟩
    obtain⟨hu,oK,h1,h2,h3⟩:=yS h _ parts.toList _ [] _ cs u2 (fun p hp=>by cases hp) bFH Yi;have h3:oK.size=len*size:=by rw[h3];simp[rT]
    have gR:=Jw (P:=P) w t e len (parts.map fun p=>(p.1,a.eval p.2)) oK ie z wH hi hz (by rw[rT];omega) (by rw[Array.toList_map];subst rT;exact h1);have hex:(execOp a.eval o).run P w=.ok (.value (.slice (some ⟨w.heap.size,0,none⟩) len len)) (w.alloc (.cells oK e)):=by
     unfold execOp;rw[ho];simp only[Sem.run_bind];rw[gR];rfl
    have h0:=h.cons hu;have fin:∀c,zK (XO X ρ (applyUps u2 hp)) w c oK->(∀k ns,c=.ints k ns->len=ns.length/\oK.size=len)->(∀Ok,c=.cells Ok->Ok.length=len*size) ->
      jT P E X w0 al fr hp a w o id (.v (.one (.buf id len))) (u2 ++ [(id,some ⟨e,c⟩)]):=by
     intro c hc hints kM;have h1:=h0.alloc (id:=id) (al':=oO al id) (wQ 0 (by omega)) (fun _ h=>.inl h) (rL id) e c oK hc;unfold jT;rw[lF];refine⟨_,_,_,.inl hex,h1.pure hd (x:=.v (.one (.buf id len))) ?_ ?_⟩
     ·refine⟨len,by rw[bR],bYT _,fun blk k ns hb hk=>?_,fun blk Ok hb hk=>?_⟩
      rotate_left
      ·rw[bR]at hb;cases hb;refine⟨size,kM Ok hk,?_,Ng ?_⟩
       ·rw[bR,lE (xP w _)];omega
       ·have:len<=len*size:=cBC _ Pt;omega
      rw[bR]at hb;cases hb;obtain⟨h5,h6⟩:=hints k ns hk;refine⟨h5,Ng ?_,?_⟩
      ·have:len<=len*size:=cBC _ Pt;omega
      ·rw[bR,lE (xP w _)];omega
     ·intro i hi;simp only[refs,refsV,refsL,bZL]at hi;subst hi;exact rL i
    split at he
    ·split at he <;> cases he;rename_i k ns Bg;have Up:=Gl Bg;rw[Up]at h2;obtain⟨h5,h6⟩:=Qd h2;refine fin _ h5 (fun k1 Zw e1=>?_) (fun Ok e1=>by cases e1);cases e1;simp at h3;exact⟨by omega,h3⟩
    ·cases he;exact fin _ h2.cells (fun k ns e1=>by cases e1) (fun Ok e1=>by cases e1;have:=h2.1;simp at this;omega)
   ·cases he
  ·cases he
 ·cases he
theorem aIF{X:Nat->Prop}{w:World}(hT:oS P E.T){t:TypeId}{cs ds:List S}{q:Bool}(he:eqAgg (E.T t) cs ds=some q){xs ys:Array Value}(hx:iY X w cs xs.toList)(hy:iY X w ds ys.toList) :
  (∀y z,(do eqGuard .eql t y z (.agg xs) (.agg ys);binOp .eql t (.agg xs) (.agg ys):Sem Value).run P w=.ok (.bool q) w)/\(∀y z,(do eqGuard .neq t y z (.agg xs) (.agg ys);binOp .neq t (.agg xs) (.agg ys):Sem Value).run P w=.ok (.bool (!q)) w):=by
 unfold eqAgg at he;split at he
 ·rename_i ti yE;split at he
  ·rename_i ks bUZ;have bRH:∀{cs:List S} {xs:Array Value},iY X w cs xs.toList->∀(j:Nat) (c:Value),cs[j]?=some (.sc c)->xs[j]?=some c:=by
    intro cs xs h j c hc;have kD:j<xs.toList.length:=by rw[<-h.1];exact(List.getElem?_eq_some_iff.1 hc).1
    have hv:xs.toList[j]?=some xs.toList[j]:=bZK kD;have:=(h.2 j _ _ hc hv).1;rw[this]at hv;simpa using hv
   exact aZT ((hT t ti yE).eq ks bUZ) he (bRH hx) (bRH hy)
  ·cases he
 ·cases he
theorem aIL(h:jJ E X w0 ρ al fr hp a w)(hd:jI E.nt o=true)(hT:oS P E.T){op:BinOp}{t t':TypeId}{y z:Operand}(ho:o.op=.binOp op t y z t')(he:qV E id o (evA E fr) hp=some (x,u)):jT P E X w0 al fr hp a w o id x u:=by
 have hy:=(h.ev y).1;have hz:=(h.ev z).1;unfold qV effK at he;rw[ho]at he;simp only at he;split at he
 ·rename_i p q Bd Pu;rw[Bd]at hy;rw[Pu]at hz;have e1:a.eval y=p:=hy.1;have e2:a.eval z=q:=hz.1;cases hb:boolT (E.T t) p with
  |false=>rw[hb]at he;cases he
  |true =>
   rw[hb]at he;simp only[cond_true]at he;rw[Io]at he;obtain⟨r,hr,he⟩:=Option.bind_eq_some_iff.1 he;cases he;obtain⟨h1,h2⟩:=aIR (P:=P) op t y z p q r w (fun b bEM=>by
    subst bEM;unfold boolT at hb;simp only at hb;split at hb
    ·rename_i s0 b0 z0 yE;obtain⟨d,bQF,bCB⟩:=(hT t _ yE).d;have bCB:d=.bool:=bCB;subst bCB;exact bQF
    ·cases hb) hr
   refine cO h hd (v:=r) ?_ ⟨rfl,h2⟩ (by simp[nD]);unfold execOp;rw[ho];simp only[e1,e2];rw[Sem.run_bind,h1];rfl
 ·rename_i cs ds Bd Pu;rw[Bd]at hy;rw[Pu]at hz;cases hb:eqAgg (E.T t) cs ds with
  |none=>rw[hb]at he;cases he
  |some b =>
   rw[hb]at he;simp only at he;obtain⟨xs,e1,rx⟩:∃arr,a.eval y=.agg arr/\_:=hy;obtain⟨ys,e2,ry⟩:∃arr,a.eval z=.agg arr/\_:=hz;have gR:=aIF (P:=P) hT hb rx ry;cases op <;> simp only at he <;> cases he
   ·refine cO h hd (v:=.bool b) ?_ ⟨rfl,rfl⟩ (by simp[nD]);unfold execOp;rw[ho];simp only[e1,e2];rw[Sem.run_bind,gR.1];rfl
   ·refine cO h hd (v:=.bool (!b)) ?_ ⟨rfl,rfl⟩ (by simp[nD]);unfold execOp;rw[ho];simp only[e1,e2];rw[Sem.run_bind,gR.2];rfl
 ·cases he
theorem aOO(h:jJ E X w0 ρ al fr hp a w)(hd:jI E.nt o=true){op:UnOp}{t:TypeId}{y:Operand}(ho:o.op=.unOp op t y)(he:qV E id o (evA E fr) hp=some (x,u)):jT P E X w0 al fr hp a w o id x u:=by
 have hy:=(h.ev y).1;unfold qV effK at he;rw[ho]at he;simp only at he;split at he
 ·rename_i p Bd;rw[Bd]at hy;have e1:a.eval y=p:=hy.1;rw[Lt]at he;obtain⟨r,hr,he⟩:=Option.bind_eq_some_iff.1 he;cases he;obtain⟨h1,h2⟩:=aKL (P:=P) op p r w hr;refine cO h hd (v:=r) ?_ ⟨rfl,h2⟩ (by simp[nD]);unfold execOp;rw[ho];simp only[e1,Sem.run_bind,h1,Result.andThen_ok,Sem.run_pure]
 ·cases he
theorem aCF{s d:TypeId}{ds dd:TypeDesc}{k:TK}(h1:P.underlying s=some ds)(h2:P.underlying d=some dd)(h3:Pk P k dd){p r:Value}(h:convK k p some=some r) :
  (convert s d p).run P w=.ok r w/\r.oneCell'=true:=by
 unfold convert;simp only[Sem.run_bind,run_underlying h1,run_underlying h2,Result.andThen_ok];unfold convK at h;split at h
 ·have h3:dd=.int _:=h3;subst h3;cases h;exact⟨rfl,rfl⟩
 ·have h3:dd=.float _:=h3;subst h3;cases h;exact⟨rfl,rfl⟩
 ·have h3:dd=.int _:=h3;subst h3;obtain⟨n,hn,h⟩:=Option.bind_eq_some_iff.1 h;split at h <;> cases h;rename_i hb;refine⟨?_,rfl⟩;simp[Conv.floatToInt,hn,hb]
 ·have h3:dd=.float _:=h3;subst h3;split at h <;> cases h;rename_i hs;refine⟨?_,rfl⟩;simp[Conv.floatToFloat,hs]
 ·cases h
theorem Yv(h:jJ E X w0 ρ al fr hp a w)(hd:jI E.nt o=true)(hT:oS P E.T){s d:TypeId}{y:Operand}(ho:o.op=.convert s d y)(he:qV E id o (evA E fr) hp=some (x,u)):jT P E X w0 al fr hp a w o id x u:=by
 have hy:=(h.ev y).1;unfold qV effK at he;rw[ho]at he;simp only at he;split at he
 ·rename_i t1 ti p hs wH Bd;rw[Bd]at hy;have e1:a.eval y=p:=hy.1;rw[Ek]at he;obtain⟨r,hr,he⟩:=Option.bind_eq_some_iff.1 he;cases he;obtain⟨ds,bBY,_⟩:=(hT s _ hs).d;obtain⟨dd,aWE,hk⟩:=(hT d _ wH).d;obtain⟨h1,h2⟩:=aCF (P:=P) (w:=w) bBY aWE hk hr;refine cO h hd (v:=r) ?_ ⟨rfl,h2⟩ (by simp[nD]);unfold execOp;rw[ho];simp only[e1,Sem.run_bind,h1,Result.andThen_ok,Sem.run_pure]
 ·cases he
theorem Yu(h:jJ E X w0 ρ al fr hp a w)(hd:jI E.nt o=true){y:Operand}{i:Nat}(ho:o.op=.extract y i)(he:qV E id o (evA E fr) hp=some (x,u)):jT P E X w0 al fr hp a w o id x u:=by
 have hy:=h.ev y;unfold qV effK at he;rw[ho]at he;simp only at he;split at he
 ·rename_i xs bTN;split at he <;> cases he;rename_i v hv;rw[bTN]at hy;obtain⟨⟨arr,ha,hl,hr⟩,sJ⟩:=hy;obtain⟨q,hq⟩:∃q,arr[i]?=some q:=by
   have:=aU hv;exact⟨arr[i],Array.getElem?_eq_getElem (by omega)⟩
  refine cO h hd (v:=q) ?_ (hr i v q hv hq) (fun j hj=>sJ j (List.mem_flatMap.2 ⟨v,bZC hv,hj⟩));unfold execOp;rw[ho];simp[Instr.extract,ha,hq]
 ·cases he
theorem sU{y:Operand}{k:IntKind}{n:Int}(h:jJ E X w0 ρ al fr hp a w)(he:intArg (evA E fr y)=some (k,n)):a.eval y=.int k n:=by
 have hy:=(h.ev y).1;unfold intArg at he;split at he
 ·rename_i k' n' jD;cases he;rw[jD]at hy;exact hy.1
 ·cases he
theorem Qm(h:jJ E X w0 ρ al fr hp a w)(hd:jI E.nt o=true)(hT:oS P E.T){t:TypeId}{y:Operand}{f:Nat}(ho:o.op=.fieldAddr t y f)(he:qV E id o (evA E fr) hp=some (x,u)):jT P E X w0 al fr hp a w o id x u:=by
 have hy:=h.ev y;unfold qV effK at he;rw[ho]at he;simp only at he;split at he
 ·rename_i s0 b0 z0 fs yE;obtain⟨d,wH,fields,rfl,bBX,hf⟩:=(hT t _ yE).d;have gR:∀b off o1 size g,fs[f]?=some (o1,size,g)->0<size->a.eval y=.pointer (some ⟨b,off,none⟩)->(execOp a.eval o).run P w=.ok (.value (.pointer (some ⟨b,off+o1,none⟩))) w:=by
   intro b off o1 size g aJU rU jD;have kD:=aU aJU;obtain⟨fi,fd,e1,e2,e3⟩:=hf f fields[f] (Array.getElem?_eq_getElem (by omega));rw[aJU]at e3;cases e3;unfold execOp;rw[ho];have bLT:fields[f]?=some fields[f]:=Array.getElem?_eq_getElem (by omega);simp only[jD,Instr.fieldAt,Instr.sureAddr,Sem.run_bind,run_underlying wH,Result.andThen_ok,bLT,Sem.run_pure,fieldPlace,sizeOf,typeInfo,run_program,e1];rw[aP];simp[mH]
  split at he
  ·rename_i off size g i o1 aJU jD;split at he <;> cases he;rename_i rU;rw[jD]at hy;exact cO h hd (gR _ _ _ _ _ aJU rU hy.1) rfl hy.2
  ·rename_i off size g cs aJU jD;split at he <;> cases he;rename_i rU;rw[jD]at hy;obtain⟨⟨b,aXV,hb,hc⟩,_⟩:=hy;refine cO h hd (gR _ _ _ _ _ aJU rU hb) ⟨b,aXV+off,rfl,fun i s hs=>?_⟩ (by simp[refs,refsV,refsL]);rw[bZG]at hs;have:=hc (off+i) s hs;rwa [show aXV+(off+i)=aXV+off+i by omega]at this
  ·cases he
 ·cases he
theorem Mu{t:TypeId}{fi:TypeInfo}{fd:TypeDesc}(h1:P.info? t=some fi)(h2:P.underlying t=some fd){Y:Nat->Prop}{cs:List S}{arr:Array Value}(hr:iY Y w cs arr.toList){off:Nat}{v:V}
  (he:(bif tN fd then(if off+fi.size<=cs.length then some (V.agg ((cs.drop off).take fi.size))else none)else(cs[off]?).map fun c=>V.one (.s c))=some v) :
  ∃q,(part t arr off).run P w=.ok q w/\Gt ρ hp Y w v q/\refsV v=[]:=by
 have hl:cs.length=arr.size:=by simpa using hr.1
 have aBW:(isAgg t).run P w=.ok (tN fd) w:=by
  unfold isAgg;rw[Sem.run_bind,run_underlying h2];cases fd <;> rfl
 unfold part;rw[Sem.run_bind,aBW,Result.andThen_ok];cases hg:tN fd with
 |true =>
  rw[hg]at he;simp only[cond_true]at he;split at he <;> cases he;rename_i hle;refine⟨_,by rw[if_pos rfl,Sem.run_bind];simp only[sizeOf,typeInfo,Sem.run_bind,run_program,Result.andThen_ok,h1,Sem.run_pure];rfl,⟨_,rfl,?_⟩,rfl⟩;refine⟨by simp;omega,fun i s q hs hq=>?_⟩;have hi:i<fi.size:=by have:=aU hs;simp at this;omega
  rw[bYY hi,bZG]at hs;refine hr.2 (off+i) s q hs ?_;have kD:=aU hs;simp at hq;rw[bYY (by omega),bZG]at hq;exact hq
 |false =>
  rw[hg]at he;simp only[cond_false]at he;obtain⟨c,hc,rfl⟩:=Option.map_eq_some_iff.1 he;have kD:=aU hc;have hq:arr[off]?=some arr[off]:=Array.getElem?_eq_getElem (by omega);refine⟨arr[off],by simp[hq],hr.2 off c _ hc (by simp[<-hq]),rfl⟩
theorem aIJ(h:jJ E X w0 ρ al fr hp a w)(hd:jI E.nt o=true)(hT:oS P E.T){t:TypeId}{y:Operand}{f:Nat}(ho:o.op=.field t y f)(he:qV E id o (evA E fr) hp=some (x,u)):jT P E X w0 al fr hp a w o id x u:=by
 have hy:=(h.ev y).1;unfold qV effK at he;rw[ho]at he;simp only at he;split at he
 ·rename_i s0 b0 z0 fs yE;obtain⟨d,wH,fields,rfl,bBX,hf⟩:=(hT t _ yE).d;split at he
  ·rename_i off size g cs aJU jD;split at he <;> cases he;rename_i v hv;rw[jD]at hy;obtain⟨arr,ha,hr⟩:=hy;have kD:=aU aJU;obtain⟨fi,fd,e1,e2,e3⟩:=hf f fields[f] (Array.getElem?_eq_getElem (by omega));rw[aJU]at e3;cases e3;obtain⟨q,Pu,bKZ,bKY⟩:=Mu (P:=P) (ρ:=ρ) (hp:=hp) e1 e2 hr hv;refine cO h hd (v:=q) ?_ bKZ (by simp[refs,bKY]);have bLT:fields[f]?=some fields[f]:=Array.getElem?_eq_getElem (by omega);unfold execOp;rw[ho];simp only[Instr.field,Sem.run_bind,run_underlying wH,Result.andThen_ok,bLT,ha,asAgg,Sem.run_pure,Pu]
  ·cases he
 ·cases he
theorem aII(h:jJ E X w0 ρ al fr hp a w)(hd:jI E.nt o=true)(hT:oS P E.T){t:TypeId}{y z:Operand}(ho:o.op=.index t y z)(he:qV E id o (evA E fr) hp=some (x,u)):jT P E X w0 al fr hp a w o id x u:=by
 have hy:=(h.ev y).1;unfold qV effK at he;rw[ho]at he;simp only at he;split at he
 ·rename_i s0 b0 z0 len qP g cs k n yE jD bFF;have hz:=sU h bFF;split at he
  ·rename_i kD;rw[aSX cs kD]at he;split at he <;> cases he;rename_i v hv;rw[jD]at hy;obtain⟨arr,ha,hr⟩:=hy;obtain⟨d,wH,e,ei,ed,rfl,aFN,aTH,bQD,bQC⟩:=(hT t _ yE).d;subst aTH;subst bQC;obtain⟨q,Pu,bKZ,bKY⟩:=Mu (P:=P) (ρ:=ρ) (hp:=hp) aFN bQD hr hv;refine cO h hd (v:=q) ?_ bKZ (by simp[refs,bKY]);unfold execOp;rw[ho];simp only[Instr.index,Sem.run_bind,hz,asIntOf,Sem.run_pure,run_underlying wH,Result.andThen_ok,ha];rw[if_pos kD];simp only[sizeOf,typeInfo,Sem.run_bind,run_program,Result.andThen_ok,aFN,Sem.run_pure,Pu]
  ·cases he
 ·rename_i s0 b0 z0 s k n yE jD bFF;have hz:=sU h bFF;split at he
  ·rename_i kD;cases he;rw[jD]at hy;obtain⟨ha,_⟩:=hy;obtain⟨d,wH,rfl⟩:=(hT t _ yE).d;refine cO h hd (v:=.int .u8 (Jb s n)) ?_ ⟨rfl,rfl⟩ (by intro i hi;cases hi);unfold execOp;rw[ho];have bEZ:n.toNat<s.size:=by omega
   have hs:(if 0<=n then s[n.toNat]? else none)=some s[n.toNat]:=by
    rw[if_pos kD.1];exact getElem?_pos s n.toNat bEZ
   have Qf:Jb s n=(s[n.toNat].toNat:Int):=by
    unfold Jb;rw[getElem?_pos s n.toNat bEZ]
   simp only[Instr.index,Sem.run_bind,hz,asIntOf,Sem.run_pure,run_underlying wH,Result.andThen_ok,ha,hs,Qf]
  ·cases he
 ·cases he
end
end AI
namespace AI
open Go Go.RowKit
section
variable {P:Program} {E:Env} {X:Nat->Prop} {w0:Old} {ρ:Nat->Nat} {al:Nat->Prop} {fr:Nat->A} {hp:Nat->Option kQ} {a:Act} {w:World} {o:Oper} {id:Nat} {x:A} {u:qR}
theorem Am{R:Type}{n:Int}{K:Nat->Option R}{r:R}:∀{m j:Nat},splitN n m j K=some r->∃i,j<=i/\i<j+m/\n=(i:Int)/\K i=some r
 |0,_,h=>by cases h
 |m+1,j,h=>by
  unfold splitN at h
  by_cases hc:n=(j:Int)
  ·rw[decide_eq_true hc]at h;exact⟨j,bYT _,by omega,hc,h⟩
  ·rw[decide_eq_false hc]at h;obtain⟨i,h1,h2,h3,h4⟩:=Am (m:=m) (j:=j+1) h;exact⟨i,by omega,by omega,h3,h4⟩
theorem aHL{R:Type}{sh:Bool}{hp:Nat->Option kQ}{t:TI}{qP:Nat}{x:A}{n:Int}{K:A->Option R}{r:R}(h:idxS sh hp t qP x n K=some r):idxK hp t qP x n K=some r:=by
 unfold idxS at h;split at h
 ·split at h
  ·obtain⟨i,_,_,hn,h⟩:=Am h;rw[hn];exact h
  ·exact h
 ·exact h
theorem wrap_small{n:Int}(h0:0<=n)(h1:n<=room):i64.wrap n=n:=by
 unfold room at h1;unfold IntKind.wrap;simp only[IntKind.bits,IntKind.signed];have e:n%(2^64:Int)=n:=by omega
 simp only[e];rw[if_neg (by simp;omega)]
theorem run_make(w:World)(t e:TypeId)(i:TypeInfo)(z:Value)(hu:P.underlying t=some (.slice e))(hi:P.info? e=some i)(hz:i.zero=some z)(kl kc:IntKind)(l c:Int)(h0:0<=l)(h1:l<=c)(h2:c<=room)(hb:i.bytes<=8) :
  (Instr.makeSlice t (.int kl l) (.int kc c)).run P w=.ok (.slice (some ⟨w.heap.size,0,none⟩) l.toNat c.toNat) (w.alloc (.cells ((Array.range (c.toNat*i.size)).map (z.cells[·%z.cells.size]!)) e)):=by
 have e1:i64.wrap l=l:=wrap_small h0 (by omega);have e2:i64.wrap c=c:=wrap_small (by omega) h2;have hbc:¬((i.bytes:Int)*c>2^48):=by
  have:(i.bytes:Int)*c<=8*c:=cBD (by omega) (by omega);unfold room at h2;omega
 have Rw:¬((i.bytes:Int)*l>2^48):=by
  have:(i.bytes:Int)*l<=8*l:=cBD (by omega) (by omega);unfold room at h2;omega
 unfold Instr.makeSlice;simp only[Sem.run_bind,run_underlying hu,Result.andThen_ok,asInt,asIntOf,Sem.run_pure,typeInfo,run_program,hi,e1,e2];rw[if_neg (by simp;omega)];have rT:∀w:World,(sizeOf e).run P w=.ok i.size w:=fun w=>by simp[sizeOf,typeInfo,hi]
 have aMV:∀w:World,(zeroValue e).run P w=.ok z w:=fun w=>by simp[zeroValue,typeInfo,hi,hz]
 simp only[Sem.run_bind,run_askRoom,Result.andThen_ok,rT]
 by_cases hc:c.toNat*i.size=0
 ·rw[if_pos hc];have e0:∀(f g:Nat->Value),Array.map f (Array.range 0)=Array.map g (Array.range 0):=fun f g=>by simp[Array.range]
  simp only[Sem.run_bind,Sem.run_pure,Result.andThen_ok,hc];rw[e0 _ (fun x=>z.cells[x%z.cells.size]!)];rfl
 ·rw[if_neg hc];simp only[Sem.run_bind,aMV,Sem.run_pure,Result.andThen_ok];rfl
theorem Qk (h : jJ E X w0 ρ al fr hp a w) (hd : jI E.nt o = true) (hT : oS P E.T) (wQ : ∀ j, j < 8 → ¬ al (id + j)) {t : TypeId} {y z : Operand} (ho : o.op = .makeSlice t y z) (he : qV E id o (evA E fr) hp = some (x, u)) : jT P E X w0 al fr hp a w o id x u := by
  unfold qV effK at he
  rw [ho] at he
  simp only at he
  split at he
  · rename_i s0 b0 z0 e k1 l k2 c yE bLJ bPW
    have hy := sU h bLJ
    have hz := sU h bPW
    have ht := hT t _ yE
    obtain ⟨d, wH, Ew⟩ := ht.d
    have Ew : d = .slice e := Ew
    subst Ew
    split at he
    · rename_i bytes k0 z0' k Ps
      have No := hT e _ Ps
      obtain ⟨i, hi, rT, aWH, zv, aMV, Qe⟩ := No.i
      split at he
      · rename_i Nw
        split at he <;> cases he
        rename_i Nv
        obtain ⟨h0, h1, h2⟩ := Nv
        have rT : i.size = 1 := rT
        have aWH : i.bytes = bytes := aWH
        have gR := run_make (P := P) w t e i zv wH hi aMV k1 k2 l c h0 h1 h2 (by omega)
        obtain ⟨_, _, rfl, rfl⟩ := Nw
        have Qe : zv.cells.toList = [.int k0 0] := Qe
        have aYC : zv.cells.size = 1 := by have : zv.cells.toList.length = 1 := by rw [Qe]; rfl
                                           simpa using this
        have aJO : zv.cells[0]! = .int k0 0 := by
          rw [getElem!_pos zv.cells 0 (by omega)]
          have : zv.cells.toList[0]? = some (.int k0 0) := by rw [Qe]; rfl
          simpa [Array.getElem?_eq_getElem (show 0 < zv.cells.size by omega)] using this
        have h3 := h.alloc (id := id) (al' := oO al id) (wQ 0 (by omega)) (fun _ h => .inl h) (rL id) e (.ints k0 (cAW l.toNat 0)) ((Array.range (c.toNat * i.size)).map (zv.cells[· % zv.cells.size]!)) (by
          refine ⟨by simp [rT]; omega, fun j n hn => ?_⟩
          have hj := aU hn
          simp at hj
          rw [List.getElem?_replicate, if_pos (by omega)] at hn
          cases hn
          have bVF : j < c.toNat := by omega
          simp only [aYC, Nat.mod_one, aJO, rT, bZD]
          simp [bVF])
        refine ⟨_, .slice (some ⟨w.heap.size, 0, none⟩) l.toNat c.toNat, _, .inl ?_, h3.pure hd (x := .v (.one (.buf id l.toNat))) ?_ ?_⟩
        · unfold execOp
          rw [ho]
          simp only [hy, hz, Sem.run_bind, gR, Result.andThen_ok, Sem.run_pure]
        · refine ⟨c.toNat, by rw [bR], by omega, fun blk k' ns hb hk => ?_, fun blk cs hb hk => by rw [bR] at hb; cases hb; cases hk⟩
          rw [bR] at hb
          cases hb
          cases hk
          refine ⟨by simp, by unfold room at h2; unfold maxLen; omega, ?_⟩
          rw [bR, lE (xP w _)]
          simp [rT]
        · intro i hi
          simp only [refs, refsV, refsL, bZL] at hi
          subst hi
          exact rL i
      · cases he
    · cases he
  · cases he
theorem xW(h:jJ E X w0 ρ al fr hp a w){d l:Int}{y:Option Operand}(he:bndA d (y.map (evA E fr))=some l):(y=none/\l=d)\/∃z k,y=some z/\a.eval z=.int k l:=by
 cases y with
 |none=>cases he;exact .inl ⟨rfl,rfl⟩
 |some z =>
  refine .inr ⟨z,?_⟩;have hz:=(h.ev z).1;simp only[bZH]at he;unfold bndA at he;split at he
  ·cases ‹some _=none›
  ·rename_i k n jD;cases he;have jD:evA E fr z=.v (.one (.s (.sc (.int k l)))):=Option.some.inj jD;rw[jD]at hz;exact⟨k,rfl,hz.1⟩
  ·cases he
theorem run_sliceBound(k:IntKind)(n:Int)(y:Nat)(c:BoundsCode)(h0:0<=n)(h1:n<=y):(Instr.sliceBound (.int k n) y c).run P w=.ok n.toNat w:=by
 unfold Instr.sliceBound;simp only[Sem.run_bind,asIntOf,Sem.run_pure,Result.andThen_ok];rw[if_pos ⟨h0,h1⟩];rfl
theorem aAU(len cap:Nat)(bBS:len<=cap)(lo hi mx:Option Operand)(h:jJ E X w0 ρ al fr hp a w)
  {R:Type} {K:Nat->Nat->Option R} {r:R} (he:sliceK len (lo.map (evA E fr)) (hi.map (evA E fr)) (mx.map (evA E fr)) K=some r) :
  ∃l h' m,K l h'=some r/\l<=h'/\h'<=len/\h'<=m/\m<=cap/\(Instr.sliceBounds true len cap (lo.map a.eval) (hi.map a.eval) (mx.map a.eval)).run P w=.ok (l,h',m) w:=by
 unfold sliceK at he;split at he
 ·rename_i l h' hl hh hm;have bUR:mx=none:=by cases mx with
   |none=>rfl
   |some y=>cases hm
  subst bUR;split at he
  ·rename_i hc;obtain⟨c0,c1,c2⟩:=hc;refine⟨l.toNat,h'.toNat,cap,he,by omega,by omega,by omega,bYT _,?_⟩;unfold Instr.sliceBounds;rcases xW h hh with ⟨rfl,rfl⟩ |⟨yh,kh,rfl,bFC⟩
   ·rcases xW h hl with ⟨rfl,rfl⟩ |⟨yl,kl,rfl,aJS⟩
    ·rfl
    ·simp only[cBE,bZH,Sem.run_bind,Sem.run_pure,Result.andThen_ok,aJS,Option.isSome_none];rw[run_sliceBound kl l len _ c0 (by omega)];rfl
   ·simp only[cBE,bZH,Sem.run_bind,Sem.run_pure,Result.andThen_ok,bFC];rw[run_sliceBound kh h' cap _ (by omega) (by omega)];simp only[Result.andThen_ok];rcases xW h hl with ⟨rfl,rfl⟩ |⟨yl,kl,rfl,aJS⟩
    ·rfl
    ·simp only[bZH,aJS,Sem.run_bind];rw[run_sliceBound kl l h'.toNat _ c0 (by omega)];rfl
  ·cases he
 ·rename_i l h' mxa hl hh hm;split at he
  ·rename_i ya m bTL bPV;split at he
   ·rename_i hc;obtain⟨c0,c1,c2,c3⟩:=hc;obtain⟨ym,rfl,km,bLN⟩:∃ym,mx=some ym/\∃km,a.eval ym=.int km m:=by
     rw[<-hm]at bPV;rcases xW h bPV with ⟨rfl,_⟩ |⟨ym,km,rfl,bLN⟩
     ·cases hm
     ·exact⟨ym,rfl,km,bLN⟩
    obtain⟨yh,rfl,kh,bFC⟩:∃yh,hi=some yh/\∃kh,a.eval yh=.int kh h':=by
     rcases xW h hh with ⟨rfl,_⟩ |⟨yh,kh,rfl,bFC⟩
     ·cases bTL
     ·exact⟨yh,rfl,kh,bFC⟩
    refine⟨l.toNat,h'.toNat,m.toNat,he,by omega,by omega,by omega,by omega,?_⟩;unfold Instr.sliceBounds;simp only[bZH,Sem.run_bind,bLN];rw[run_sliceBound km m cap _ (by omega) (by omega)];simp only[Result.andThen_ok,bFC];rw[run_sliceBound kh h' m.toNat _ (by omega) (by omega)];simp only[Result.andThen_ok];rcases xW h hl with ⟨rfl,rfl⟩ |⟨yl,kl,rfl,aJS⟩
    ·rfl
    ·simp only[bZH,aJS,Sem.run_bind];rw[run_sliceBound kl l h'.toNat _ c0 (by omega)];rfl
   ·cases he
  ·cases he
 ·cases he
theorem nC{t e:TypeId}{size:Nat}(hu:P.underlying t=some (.slice e))(hs:(sizeOf e).run P w=.ok size w)(A0:Option Addr)(len cap:Nat)(bBS:len<=cap)(lo hi mx:Option Operand)(h:jJ E X w0 ρ al fr hp a w)
  {R:Type} {K:Nat->Nat->Option R} {r:R} (he:sliceK len (lo.map (evA E fr)) (hi.map (evA E fr)) (mx.map (evA E fr)) K=some r) :
  ∃l h' m,K l h'=some r/\l<=h'/\h'<=len/\h'<=m/\m<=cap/\(Instr.sliceAt t (.slice A0 len cap) (lo.map a.eval) (hi.map a.eval) (mx.map a.eval)).run P w=.ok (.slice (if m=l then A0 else A0.map (·.add (l*size))) (h'-l) (m-l)) w:=by
 obtain⟨l,h',m,h1,h2,h3,h4,h5,gR⟩:=aAU (P:=P) len cap bBS lo hi mx h he;refine⟨l,h',m,h1,h2,h3,h4,h5,?_⟩;unfold Instr.sliceAt;rw[Sem.run_bind,run_underlying hu,Result.andThen_ok];simp only[Instr.slice,Sem.run_bind,run_underlying hu,Result.andThen_ok,gR,hs,Sem.run_pure]
theorem aIH(h:jJ E X w0 ρ al fr hp a w)(hd:jI E.nt o=true)(hT:oS P E.T){t:TypeId}{y:Operand}{lo hi mx:Option Operand}(ho:o.op=.slice t y lo hi mx)(he:qV E id o (evA E fr) hp=some (x,u)):jT P E X w0 al fr hp a w o id x u:=by
 have hy:=h.ev y;unfold qV effK at he;rw[ho]at he;simp only at he;split at he
 ·rename_i s0 b0 z0 e yE;obtain⟨d,wH,Ew⟩:=(hT t _ yE).d;have Ew:d=.slice e:=Ew;subst Ew;split at he
  ·rename_i bytes zero k Ps;have rT:=(hT e _ Ps).run_sizeOf (w:=w);have hex:∀v,(Instr.sliceAt t (a.eval y) (lo.map a.eval) (hi.map a.eval) (mx.map a.eval)).run P w=.ok v w->(execOp a.eval o).run P w=.ok (.value v) w:=by
    intro v hv;unfold execOp;rw[ho];simp only[Sem.run_bind,hv,Result.andThen_ok,Sem.run_pure]
   split at he
   ·rename_i k' ns jD;split at he
    ·rename_i hk;subst hk;rw[jD]at hy;obtain⟨⟨A0,c,hv,bBS,kM⟩,_⟩:=hy;obtain⟨l,h',m,hK,h1,h2,h3,h4,gR⟩:=nC (P:=P) wH rT A0 ns.length c bBS lo hi mx h he;obtain⟨e1,e2⟩:=Prod.mk.inj (Option.some.inj hK);rw[<-e1,<-e2];rw[<-hv]at gR;have hlen:((ns.take h').drop l).length=h'-l:=by simp;omega
     refine cO h hd (hex _ gR) ⟨_,m-l,by rw[hlen],by rw[hlen];omega,fun i n hn=>?_⟩ (by simp[refs,refsV,refsL]);rw[bZG,List.getElem?_take]at hn;split at hn
     ·rename_i hli;obtain⟨b,off,hA,hb,hx,hc⟩:=kM (l+i) n hn;refine⟨b,off+l,?_,hb,hx,by rw[<-hc];congr 2;omega⟩;rw[aP,hA];simp[mH]
     ·cases hn
    ·cases he
   ·rename_i jD;rw[jD]at hy;have hv:a.eval y=.slice none 0 0:=hy.1.1;obtain⟨l,h',m,hK,h1,h2,h3,h4,gR⟩:=nC (P:=P) wH rT none 0 0 (bYT _) lo hi mx h he;obtain⟨e1,e2⟩:=Prod.mk.inj (Option.some.inj hK);rw[<-e1,<-e2];rw[<-hv]at gR;have hlen:h'-l=([]:List Int).length:=by simp;omega
    exact cO h hd (hex _ gR) ⟨_,m-l,by rw[hlen],by simp,fun i n hn=>by simp at hn⟩ (by simp[refs,refsV,refsL])
   ·rename_i i n jD;rw[jD]at hy;obtain⟨⟨cap,hv,Dh,hc,_⟩,sJ⟩:=hy;obtain⟨l,h',m,hK,h1,h2,h3,h4,gR⟩:=nC (P:=P) wH rT _ n cap Dh lo hi mx h he;obtain⟨e1,e2⟩:=Prod.mk.inj (Option.some.inj hK);rw[<-e1,<-e2];rw[<-hv]at gR;refine cO h hd (hex _ gR) ⟨if m=l then 0 else l,m-l,?_,by omega,fun rU=>?_,fun h0=>?_,fun blk k' ns hb hk=>?_⟩ sJ
    ·congr 1;split <;> simp_all [mH]
    ·rw[aP]
    ·split <;> omega
    ·have:=hc blk k' ns hb hk;exact⟨by omega,by omega,by omega⟩
   ·rename_i i off n jD;rw[jD]at hy;obtain⟨⟨o',cap,hv,Dh,hA,hA0,hc⟩,sJ⟩:=hy;obtain⟨l,h',m,hK,h1,h2,h3,h4,gR⟩:=nC (P:=P) wH rT _ n cap Dh lo hi mx h he;obtain⟨e1,e2⟩:=Prod.mk.inj (Option.some.inj hK);rw[<-e1,<-e2];rw[<-hv]at gR;refine cO h hd (hex _ gR) ⟨if m=l then o' else o'+l,m-l,?_,by omega,fun rU=>?_,fun h0=>?_,fun blk k' ns hb hk=>?_⟩ sJ
    ·congr 1;split <;> simp_all [mH]
    ·rw[aP,hA (by omega)]
    ·have:=hA0 (by omega);split <;> omega
    ·have:=hc blk k' ns hb hk;exact⟨by omega,by omega,by omega⟩
   ·cases he
  ·rename_i te _ Ps;have rT:=(hT e _ Ps).run_sizeOf (w:=w);split at he
   ·rename_i sz n f jD;split at he
    ·rename_i bKP;subst bKP;rw[jD]at hy;obtain⟨⟨A0,cap,hv,Dh,aYJ⟩,_⟩:=hy;obtain⟨l,h',m,hK,h1,h2,h3,h4,gR⟩:=nC (P:=P) wH rT A0 n cap Dh lo hi mx h he;obtain⟨e1,e2⟩:=Prod.mk.inj (Option.some.inj hK);rw[<-e1,<-e2];rw[<-hv]at gR;have hex:(execOp a.eval o).run P w=.ok (.value (.slice (if m=l then A0 else A0.map (·.add (l*te.size))) (h'-l) (m-l))) w:=by
      unfold execOp;rw[ho];simp only[Sem.run_bind,gR,Result.andThen_ok,Sem.run_pure]
     refine cO h hd hex ⟨_,m-l,rfl,by omega,fun i hi=>?_⟩ (by simp[refs,refsV,refsL]);obtain⟨r1,b,off,hA,r2⟩:=aYJ (l+i) (by omega);refine⟨r1,b,off+l*te.size,?_,?_⟩
     ·rw[aP,hA];simp[mH]
     ·rw[show off+l*te.size+i*te.size=off+(l+i)*te.size by rw[bZN];omega];exact r2
    ·cases he
   ·cases he
  ·cases he
 ·cases he
theorem Fq{α:Type}{x y:α}{i:Nat}(h:[x][i]?=some y):i=0/\y=x:=by
 match i with
 |0=>simp at h;exact⟨rfl,h.symm⟩
 |i+1=>simp at h
theorem Ql(h:jJ E X w0 ρ al fr hp a w)(hd:jI E.nt o=true)(hT:oS P E.T){t:TypeId}{y z:Operand}(ho:o.op=.indexAddr t y z)(he:qV E id o (evA E fr) hp=some (x,u)):jT P E X w0 al fr hp a w o id x u:=by
 have hy:=h.ev y;unfold qV effK at he;rw[ho]at he;simp only at he;split at he
 ·rename_i ti k n yE bFF;have hz:=sU h bFF;have ht:=hT t _ yE;obtain⟨d,wH,Ew⟩:=ht.d;split at he
  ·
   rename_i e Yg;rw[Yg]at Ew;have Ew:d=.slice e:=Ew;subst Ew;split at he
   ·rename_i te Ps;have rT:=(hT e _ Ps).run_sizeOf (w:=w);have hex:∀b off len cap,a.eval y=.slice (some ⟨b,off,none⟩) len cap->0<=n/\n<(len:Int)->(execOp a.eval o).run P w=.ok (.value (.pointer (some ⟨b,off+n.toNat*te.size,none⟩))) w:=by
     intro b off len cap hv hn;unfold execOp;rw[ho];simp only[hv,hz,Instr.indexAt,Sem.run_bind,asIntOf,Sem.run_pure,Result.andThen_ok,run_underlying wH];rw[if_pos hn];simp only[Sem.run_bind,rT,Result.andThen_ok,Sem.run_pure,mH]
    split at he
    ·cases he
    ·cases he
    ·rename_i xa aBM aTC;have he:=aHL he;unfold idxK at he;split at he
     ·rename_i k' ns jD;rw[jD]at hy;obtain⟨⟨A0,c,hv,bBS,kM⟩,_⟩:=hy;split at he
      ·rename_i aZA;split at he
       ·rename_i hn;obtain⟨e1,e2⟩:=Prod.mk.inj (Option.some.inj he);rw[<-e1,<-e2];have kD:n.toNat<ns.length:=by omega
        obtain⟨b,off,hA,hb,hx,hc⟩:=kM n.toNat ns[n.toNat] (bZK kD);subst hA;refine cO h hd (hex b off ns.length c hv hn) ⟨b,off+n.toNat*te.size,rfl,fun i s hs=>?_⟩ (by simp[refs,refsV,refsL]);obtain⟨rfl,rfl⟩:=Fq hs;refine⟨hb,hx,_,by rw[aZA,bZD,bZR];exact hc,?_,rfl⟩;simp[cAN,kD]
       ·cases he
      ·cases he
     ·rename_i i m jD;rw[jD]at hy;obtain⟨⟨cap,hv,Dh,hc,_⟩,sJ⟩:=hy;split at he
      ·rename_i e' k' ns hb;split at he
       ·rename_i aZA;split at he
        ·rename_i hn;obtain⟨e1,e2⟩:=Prod.mk.inj (Option.some.inj he);rw[<-e1,<-e2];refine cO h hd (hex _ _ m cap hv hn) ⟨by rw[aZA,bYV,bZD],fun blk k1 Zw rW Kb=>?_⟩ sJ;have:=(hc blk k1 Zw rW Kb).1;omega
        ·cases he
       ·cases he
      ·rename_i e' cs hb;split at he
       ·rename_i hn;obtain⟨e1,e2⟩:=Prod.mk.inj (Option.some.inj he);rw[<-e1,<-e2];refine cO h hd (hex _ _ m cap hv hn) ?_ sJ;show _=_;rw[bYV]
       ·cases he
      ·cases he
     ·rename_i i off m jD;rw[jD]at hy;obtain⟨hy,sJ⟩:=hy;obtain⟨A0,cap,hv,Dh,hA,hc⟩:=xF hy;split at he
      ·rename_i e' k' ns hb;split at he
       ·rename_i aZA;split at he
        ·rename_i hn;obtain⟨e1,e2⟩:=Prod.mk.inj (Option.some.inj he);rw[<-e1,<-e2];have hA:=hA (by omega);subst hA;refine cO h hd (hex _ _ m cap hv hn) ⟨by rw[aZA,bZD],fun blk k1 Zw rW Kb=>?_⟩ sJ;have:=hc blk k1 Zw rW Kb;omega
        ·cases he
       ·cases he
      ·cases he
     ·rename_i sz m f jD;rw[jD]at hy;obtain⟨⟨A0,c,hv,bBS,kM⟩,_⟩:=hy;split at he
      ·rename_i aZA;split at he
       ·rename_i hn;obtain⟨e1,e2⟩:=Prod.mk.inj (Option.some.inj he);rw[<-e1,<-e2];obtain⟨bBX,b,off,hA,hc⟩:=kM n.toNat (by omega);subst hA;exact cO h hd (hex b off m c hv hn) ⟨b,off+n.toNat*te.size,rfl,by rw[<-aZA];exact hc⟩ (by simp[refs,refsV,refsL])
       ·cases he
      ·cases he
     ·exact absurd ‹_› (aBM _ _)
     ·exact absurd ‹_› (aTC _ _)
     ·cases he
   ·cases he
  ·
   rename_i len qP g Yg;rw[Yg]at Ew;obtain⟨e,ei,ed,rfl,aFN,aTH,bQD,bQC⟩:=Ew;have rT:(sizeOf e).run P w=.ok qP w:=by simp[sizeOf,typeInfo,aFN,aTH]
   have hex:∀b off,a.eval y=.pointer (some ⟨b,off,none⟩)->0<=n/\n<(len:Int)->(execOp a.eval o).run P w=.ok (.value (.pointer (some ⟨b,off+n.toNat*qP,none⟩))) w:=by
    intro b off hv hn;unfold execOp;rw[ho];simp only[hv,hz,Instr.indexAt,Sem.run_bind,asIntOf,Sem.run_pure,Result.andThen_ok,run_underlying wH,Instr.sureAddr];rw[if_pos hn];simp only[Sem.run_bind,rT,Result.andThen_ok,Sem.run_pure,mH]
   split at he
   ·rename_i i off jD;rw[jD]at hy;simp only[idxK,Yg]at he;cases hb:bYW len 8 with
    |true =>
     rw[hb,cond_true]at he;obtain⟨j,_,hj,hn,he⟩:=Am he;obtain⟨e1,e2⟩:=Prod.mk.inj (Option.some.inj he);rw[<-e1,<-e2];have hx:=hex _ _ hy.1 (by omega);rw[hn,Int.toNat_natCast]at hx;exact cO h hd hx rfl hy.2
    |false =>
    rw[hb,cond_false]at he;split at he
    ·rename_i hn;obtain⟨e1,e2⟩:=Prod.mk.inj (Option.some.inj he);rw[<-e1,<-e2];exact cO h hd (hex _ _ hy.1 hn) rfl hy.2
    ·cases he
   ·rename_i k' ns jD;rw[jD]at hy;obtain⟨⟨b,off,hv,hc⟩,_⟩:=hy;simp only[idxK,Yg]at he;split at he
    ·rename_i hl;split at he
     ·rename_i hn;obtain⟨e1,e2⟩:=Prod.mk.inj (Option.some.inj he);rw[<-e1,<-e2];have kD:n.toNat<ns.length:=by omega
      refine cO h hd (hex _ _ hv hn) ⟨b,off+n.toNat*qP,rfl,fun i s hs=>?_⟩ (by simp[refs,refsV,refsL]);obtain⟨rfl,rfl⟩:=Fq hs;have:=hc n.toNat (.sc (.int k' (ns.getD n.toNat 0))) (by simp[xM,cAN,kD]);rw[hl.2,bZD,bZR];exact this
     ·cases he
    ·cases he
   ·cases he
  ·cases he
 ·cases he
theorem foldMM_sound(op:BinOp)(bt:Value->Value->Sem Value)(bFW:∀k n m,∀w,(bt (.int k n) (.int k m)).run P w=.ok (.int k (match op with | .gtr=>if m>n then m else n |_=>if m<n then m else n)) w)(h:jJ E X w0 ρ al fr hp a w)(k:IntKind):∀(ys:List Operand) (n r:Int),
  foldMM op k n (ys.map (evA E fr))=some r->((ys.map a.eval).foldlM bt (.int k n)).run P w=.ok (.int k r) w
 | [],n,r,he=>by cases he;rfl
 |y :: ys,n,r,he=>by
  simp only[bYS]at he ⊢;unfold foldMM at he;split at he
  ·cases ‹_ :: _=[]›
  ·rename_i n0 k' m rest jD;obtain⟨jD,zU⟩:=List.cons.inj jD;split at he
   ·rename_i hk;subst hk;have hy:=(h.ev y).1;rw[jD]at hy;have hy:a.eval y=.int k m:=hy.1;rw[<-zU]at he;have ih:=foldMM_sound op bt bFW h k ys _ r he;simp only[List.foldlM_cons,Sem.run_bind,hy,bFW,Result.andThen_ok];exact ih
   ·cases he
  ·cases he
theorem aBI(h:jJ E X w0 ρ al fr hp a w){y:Operand}{n:Nat}(he:lenA (evA E fr y)=some n):∃A0 cap,a.eval y=.slice A0 n cap:=by
 have hy:=(h.ev y).1;unfold lenA at he;split at he
 ·rename_i k ns jD;cases he;rw[jD]at hy;obtain⟨A0,c,hv,_⟩:=hy;exact⟨A0,c,hv⟩
 ·rename_i jD;cases he;rw[jD]at hy;exact⟨none,0,hy.1⟩
 ·rename_i i n' jD;cases he;rw[jD]at hy;obtain⟨cap,hv,_⟩:=hy;exact⟨_,cap,hv⟩
 ·rename_i i off n' jD;cases he;rw[jD]at hy;obtain⟨A0,cap,hv,_⟩:=xF hy;exact⟨A0,cap,hv⟩
 ·rename_i sz n' f jD;cases he;rw[jD]at hy;obtain⟨A0,cap,hv,_⟩:=hy;exact⟨A0,cap,hv⟩
 ·cases he
theorem uQ(h:jJ E X w0 ρ al fr hp a w){k:IntKind}{y:Operand}{ns:List Int}(he:intsOf hp k (evA E fr y)=some ns) :
  ∃A0 cap,a.eval y=.slice A0 ns.length cap/\∀(i:Nat) (n:Int),ns[i]?=some n->∃ad,A0=some ad/\w.cell? (ad.add i)=some (.int k n):=by
 have hy:=(h.ev y).1;unfold intsOf at he;split at he
 ·rename_i k' nV jD;split at he <;> cases he;rename_i hk;subst hk;rw[jD]at hy;obtain⟨A0,c,hv,hle,hc⟩:=hy;refine⟨A0,c,hv,fun i n hn=>?_⟩;obtain⟨b,off,hA,_,_,aNQ⟩:=hc i n hn;exact⟨_,hA,by rw[mH];exact aNQ⟩
 ·rename_i jD;cases he;rw[jD]at hy;exact⟨none,0,hy.1,fun i n hn=>by simp at hn⟩
 ·rename_i i m jD;split at he
  ·rename_i e k' nV hb;split at he <;> cases he;rename_i hk;subst hk;rw[jD]at hy;obtain⟨cap,hv,hle,hc,_⟩:=hy;obtain⟨hm,_⟩:=hc _ k ns hb rfl;subst hm;refine⟨_,cap,hv,fun j n hn=>⟨_,rfl,?_⟩⟩;rw[mH,bYV];exact h.yZ hb hn
  ·cases he
 ·rename_i i off m jD;split at he
  ·rename_i e k' nV hb;split at he <;> cases he;rename_i hk;subst hk;rw[jD]at hy;obtain⟨A0,cap,hv,hle,hA,hc⟩:=xF hy;have hl:=hc _ k nV hb rfl;have hlen:((nV.drop off).take m).length=m:=by simp;omega
   refine⟨A0,cap,by rw[hlen];exact hv,fun j n hn=>?_⟩;have hj:j<m:=by have:=aU hn;omega
   refine⟨_,hA (by omega),?_⟩;rw[mH];rw[bYY hj,bZG]at hn;exact h.yZ hb hn
  ·cases he
 ·cases he
theorem lH{b:Builtin}{args:Array Operand}{yC:Array TypeId}(ho:o.op=.call ⟨.builtin b,args,yC⟩){f:Array TypeId->TypeId->Array Value->Sem Value}(hf:∀consts vs,builtin b yC o.type consts vs=(do pure (.value (<-f yC o.type vs)):Sem Next)){v:Value}{w':World}(hr:(f yC o.type (args.map a.eval)).run P w=.ok v w') :
  (execOp a.eval o).run P w=.ok (.value v) w':=by
 unfold execOp;rw[ho];simp only[resolve,Sem.run_bind,Sem.run_pure,Result.andThen_ok,invoke,hf,hr]
theorem aMM(k:IntKind)(n m:Int)(w:World):(Builtin.max2 (.int k n) (.int k m)).run P w=.ok (.int k (if m>n then m else n)) w:=(rfl:_=Result.ok (Value.int k (@ite Int (m>n) (Int.decLt n m) m n)) w).trans (by congr)
theorem aML(k:IntKind)(n m:Int)(w:World):(Builtin.min2 (.int k n) (.int k m)).run P w=.ok (.int k (if m<n then m else n)) w:=(rfl:_=Result.ok (Value.int k (@ite Int (m<n) (Int.decLt m n) m n)) w).trans (by congr)
theorem aTY(h:jJ E X w0 ρ al fr hp a w)(hd:jI E.nt o=true)(hT:oS P E.T){args:Array Operand}{yC:Array TypeId}(ho:o.op=.call ⟨.builtin .len,args,yC⟩)(he:qV E id o (evA E fr) hp=some (x,u)):jT P E X w0 al fr hp a w o id x u:=by
 obtain⟨args⟩:=args;obtain⟨yC⟩:=yC;unfold qV effK at he;rw[ho]at he;simp only[builtinK]at he
 match args,yC,he with
 | [y],[t],he =>
  simp only[bYS,bZM]at he;split at he
  ·rename_i s0 b0 z0 e n yE hlen;cases he;obtain⟨d,wH,Ew⟩:=(hT t _ yE).d;have Ew:d=.slice e:=Ew;subst Ew;obtain⟨A0,cap,hv⟩:=aBI h hlen;refine cO h hd (v:=.int .i64 n) (lH ho (f:=Builtin.len_) (fun _ _=>rfl) ?_) ⟨rfl,rfl⟩ (by simp[nD]);simp[Builtin.len_,run_underlying wH,hv,goInt]
  ·rename_i s0 b0 z0 n qP g yE;cases he;obtain⟨d,wH,e,ei,ed,rfl,_⟩:=(hT t _ yE).d;refine cO h hd (v:=.int .i64 n) (lH ho (f:=Builtin.len_) (fun _ _=>rfl) ?_) ⟨rfl,rfl⟩ (by simp[nD]);simp[Builtin.len_,run_underlying wH,goInt]
  ·cases he
 | [],_,he=>simp at he
 |_ :: _ :: _,_,he=>simp at he
 | [_],[],he=>simp at he
 | [_],_ :: _ :: _,he=>simp at he
theorem Og(h:jJ E X w0 ρ al fr hp a w)(hd:jI E.nt o=true){b:Builtin}(hb:b=.max\/b=.min){args:Array Operand}{yC:Array TypeId}(ho:o.op=.call ⟨.builtin b,args,yC⟩)(he:qV E id o (evA E fr) hp=some (x,u)):jT P E X w0 al fr hp a w o id x u:=by
 obtain⟨args⟩:=args;unfold qV effK at he;rw[ho]at he;simp only at he
 match args,he with
 | [],he=>rcases hb with rfl |rfl <;> simp[builtinK]at he
 |y :: ys,he =>
  simp only[bYS]at he;have hy:=(h.ev y).1;rcases hb with rfl |rfl
  ·unfold builtinK at he;split at he <;> first | (cases he;done) | (simp_all;done) |skip
   rename_i b k n rest rW jD;obtain⟨jD,zU⟩:=List.cons.inj jD;rw[jD]at hy;have hy:a.eval y=.int k n:=hy.1;split at he <;> cases he;rename_i m hm;rw[<-zU]at hm;have hr:=foldMM_sound (P:=P) .gtr Builtin.max2 (fun k n m w=>aMM k n m w) h k ys n m hm;refine cO h hd (v:=.int k m) (lH ho (f:=Builtin.max_) (fun _ _=>rfl) ?_) ⟨rfl,rfl⟩ (by simp[nD]);unfold Builtin.max_;simp only[bZO,bYS,hy];exact hr
  ·unfold builtinK at he;split at he <;> first | (cases he;done) | (simp_all;done) |skip
   rename_i b k n rest rW jD;obtain⟨jD,zU⟩:=List.cons.inj jD;rw[jD]at hy;have hy:a.eval y=.int k n:=hy.1;split at he <;> cases he;rename_i m hm;rw[<-zU]at hm;have hr:=foldMM_sound (P:=P) .lss Builtin.min2 (fun k n m w=>aML k n m w) h k ys n m hm;refine cO h hd (v:=.int k m) (lH ho (f:=Builtin.min_) (fun _ _=>rfl) ?_) ⟨rfl,rfl⟩ (by simp[nD]);unfold Builtin.min_;simp only[bZO,bYS,hy];exact hr
end
end AI
namespace AI
open Go Go.RowKit
section
variable {P:Program} {E:Env} {X:Nat->Prop} {w0:Old} {ρ:Nat->Nat} {al:Nat->Prop} {fr:Nat->A} {hp:Nat->Option kQ} {a:Act} {w:World} {o:Oper} {id:Nat} {x:A} {u:qR}
def gL(k:IntKind)(ns:List Int):List Value:=ns.map fun n=>.int k n
theorem Ji(k:IntKind)(ns:List Int):∀v∈gL k ns,v.oneCell'=true:=by
 intro v hv;obtain⟨n,_,rfl⟩:=List.mem_map.1 hv;rfl
theorem xR{w w':World}{row:Option Nat}(hg:w.grownBy w' row){k:Nat}(hk:k<w.heap.size)(Be:row≠some k):w'.heap[k]?=w.heap[k]?:=hg.block k hk (fun e=>Be e.symm)
theorem jJ.appended(h:jJ E X w0 ρ al fr hp a w){i:Nat}{e:TypeId}{c c2:zO}(hb:hp i=some ⟨e,c⟩)(Di:E.n0<=i)(wQ:¬al id){g:Nat}{oK:Array Value}{w':World}(hg:w.grownBy w' (some (ρ i)))
  (hw:w'.heap[g]?=some (.cells oK e (0,0))) (Dn:g=ρ i\/w.heap.size<=g) (hc:∀X',iJ (XO X ρ hp) w X' w'->zK X' w' c2 oK) :
  jJ E X w0 (Ck ρ id g) (oO al id) fr (applyUps [(i,none),(id,some ⟨e,c2⟩)] hp) a w':=by
 have hi:=h.alh i _ hb;have Be:i≠id:=fun e=>wQ (e▸hi)
 obtain⟨Ny,arr,aHV,_⟩:=h.blk i _ hb;have Yh:∀j,applyUps [(i,none),(id,some ⟨e,c2⟩)] hp j=if j=id then some ⟨e,c2⟩else if j=i then none else hp j:=by
  intro j;simp only[applyUps]
  by_cases h1:j=id
  ·subst h1;rw[bR,if_pos rfl]
  ·rw[gB _ _ h1,if_neg h1]
   by_cases h2:j=i
   ·subst h2;rw[bR,if_pos rfl]
   ·rw[gB _ _ h2,if_neg h2]
 have hold:∀j b,applyUps [(i,none),(id,some ⟨e,c2⟩)] hp j=some b->j≠id->j≠i/\hp j=some b:=by
  intro j b hj Be;rw[Yh,if_neg Be]at hj;split at hj
  ·cases hj
  ·exact⟨‹_›,hj⟩
 have aSZ:∀j b,hp j=some b->j≠i->ρ j≠ρ i:=fun j b hj Be e=>Be (h.inj j i b _ hj hb e)
 have bML:Kept w0 w w':=⟨hg.os,hg.tape,hg.output,hg.size,fun k hk=>xR hg (by have:=h.below.size;have:=Old.Xm hk;omega) (fun e=>by cases e;exact hk Ny.Jz),fun k hk=>xY (xR hg (by have:=h.below.size;have:=w0.bDF k hk;omega) (fun e=>by cases e;have:=Ny.new Di;have:=w0.bDF _ hk;omega))⟩;have hl:iJ (XO X ρ hp) w (XO X (Ck ρ id g) (applyUps [(i,none),(id,some ⟨e,c2⟩)] hp)) w':=by
  refine⟨hg.size,fun b bWG hx=>⟨xR hg bWG (fun e=>hx (.inr ⟨i,_,hb,by cases e;rfl⟩)),fun ho=>?_⟩⟩;rcases ho with ho |⟨j,bl,h1,h2⟩
  ·exact hx (.inl ho)
  ·by_cases hj:j=id
   ·subst hj;rw[bR]at h2;rcases Dn with Dn |Dn
    ·exact hx (.inr ⟨i,_,hb,by omega⟩)
    ·omega
   ·rw[gB _ _ hj]at h2;exact hx (.inr ⟨j,bl,(hold j bl h1 hj).2,h2⟩)
 refine h.change hl bML ?_ ?_ ?_ (fun _ h=>.inl h) ?_
 ·intro j hj;have aBR:j≠id:=fun e=>wQ (e▸hj)
  refine⟨gB _ _ aBR,fun b' pW=>?_⟩;obtain⟨h1,h2⟩:=hold j b' pW aBR;refine⟨b',h2,sameShape.refl _,?_⟩;unfold lV;rw[xR hg (h.jK h2) (fun e=>aSZ j b' h2 h1 (Option.some.inj e).symm)]
 ·intro j b hj
  by_cases aBR:j=id
  ·subst aBR;rw[Yh,if_pos rfl]at hj;cases hj;rw[bR];exact⟨.inl (Dn.elim (fun e=>e▸Ny.new Di) (fun e=>bZP h.below.size e)),oK,hw,hc _ hl⟩
  ·obtain⟨h1,h2⟩:=hold j b hj aBR;rw[gB _ _ aBR];exact⟨(h.blk j b h2).1,(h.blk j b h2).2.later hl (xR hg (h.jK h2) (fun e=>aSZ j b h2 h1 (Option.some.inj e).symm))⟩
 ·intro j j' b b' h1 h2 e
  by_cases hj:j=id
  ·by_cases aYU:j'=id
   ·rw[hj,aYU]
   ·subst hj;obtain⟨h3,h4⟩:=hold j' b' h2 aYU;rw[bR,gB _ _ aYU]at e;rcases Dn with Dn |Dn
    ·exact absurd (e.symm.trans Dn) (aSZ j' b' h4 h3)
    ·have:=h.jK h4;omega
  ·obtain⟨h5,h6⟩:=hold j b h1 hj
   by_cases aYU:j'=id
   ·subst aYU;rw[bR,gB _ _ hj]at e;rcases Dn with Dn |Dn
    ·exact absurd (e.trans Dn) (aSZ j b h6 h5)
    ·have:=h.jK h6;omega
   ·obtain⟨h3,h4⟩:=hold j' b' h2 aYU;rw[gB _ _ hj,gB _ _ aYU]at e;exact h.inj j j' b b' h6 h4 e
 ·intro j b hj
  by_cases aBR:j=id
  ·subst aBR;exact rL j
  ·exact .inl (h.alh j b (hold j b hj aBR).2)
theorem Qq{arr:Array Value}{k:IntKind}{ns:List Int}(h:arr.toList.take ns.length=gL k ns):∀(j:Nat) (n:Int),ns[j]?=some n->arr[j]?=some (Value.int k n):=by
 intro j n hn;have hj:=aU hn;have:(gL k ns)[j]?=some (.int k n):=by simp[gL,hn]
 rw[<-h,bYY hj]at this;simpa using this
theorem Pz{arr:Array Value}{k:IntKind}{ns:List Int}(h:∀(j:Nat) (n:Int),ns[j]?=some n->arr[j]?=some (Value.int k n)):arr.toList.take ns.length=gL k ns:=by
 apply List.ext_getElem?;intro j
 by_cases hj:j<ns.length
 ·rw[bYY hj];have:=h j ns[j] (bZK hj);simp only[gL,bYX,bZK hj,bZH];simpa using this
 ·rw[cAP (by simp;omega),cAP (by simp[gL];omega)]
theorem pY(z:Array Value)(n:Nat):(Builtin.zeroCells z n).size=n*z.size:=by simp[Builtin.zeroCells]
theorem Nl(k:IntKind)(ns ms:List Int):gL k ns ++ gL k ms=gL k (ns ++ ms):=by simp[gL]
theorem zP{t e:TypeId}{ie:TypeInfo}{zv:Value}(ty:TypeId)(wH:P.underlying t=some (.slice e))(hi:P.info? e=some ie)(aMV:ie.zero=some zv)(aFE:zv.cells.size=ie.size)
  {g cap n m:Nat} {arr:Array Value} {news:List Value} (aHV:w.heap[g]?=some (.cells arr e (0,0))) (Dh:n<=cap) (bMG:cap<=maxLen) (bQH:cap*ie.size<=arr.size)
  (ad:Addr) (c0:Nat) (hl:news.length=m*ie.size) (Yb:∀(j:Nat) u,news[j]?=some u->w.cell? (ad.add j)=some u) (Np:∀v∈news,v.oneCell'=true) (xN:n+m<=maxLen) (Nw:(n+m)*ie.bytes<=140737488355328) :
  ∃g' Qr oK w',(Builtin.append_ #[t,t] ty #[.slice (some ⟨g,0,none⟩) n cap,.slice (some ad) m c0]).run P w=.ok (.slice (some ⟨g',0,none⟩) (n+m) Qr) w' /\
   w.grownBy w' (some g)/\w'.heap[g']?=some (.cells oK e (0,0))/\(g'=g\/w.heap.size<=g')/\Qr*ie.size<=oK.size/\n+m<=Qr/\Qr<=maxLen/\oK.toList.take ((n+m)*ie.size)=arr.toList.take (n*ie.size) ++ news:=by
 have h1:n*ie.size<=cap*ie.size:=cAI _ Dh;have h2:(arr.toList.take (n*ie.size)).length=n*ie.size:=by simp;omega
 have h3:(arr.toList.take (n*ie.size) ++ news).length=(n+m)*ie.size:=by rw[bZX,h2,hl,bZN]
 by_cases hr:n+m<=cap
 ·have h4:(n+m)*ie.size<=cap*ie.size:=cAI _ hr;have h5:n*ie.size+news.length=(n+m)*ie.size:=by rw[hl,bZN]
  have gR:=run_append_room (P:=P) w t ty e ie wH hi g n cap arr aHV ad m c0 _ hl Yb Np hr (by omega);refine⟨g,cap,_,_,gR,⟨rfl,rfl,rfl,by simp,fun k _ hk=>setRow_other w g k _ (fun e=>hk (by rw[e]))⟩,setRow_heap w g arr _ e _ aHV,.inl rfl,?_,hr,bMG,?_⟩
  ·simp only[cAJ,bZX,List.length_drop,h2,h5,Array.length_toList];omega
  ·rw[<-h3];exact cAK
 ·have gR:=run_append_grow (P:=P) w t ty e ie zv wH hi aMV ⟨g,0,none⟩ n cap _ h2 (fun j v hj=>by
   have aHU:=aU hj;rw[bYY (by omega)]at hj;rw[mH,bYV,cell_of_row w g j arr e (0,0) aHV];simpa using hj) ad m c0 _ hl Yb (by omega) (by unfold maxLen at xN;omega) (growslice_fits (by omega) Nw)
  have Dn:=grownCap_ge w (n+m) cap e;have Uq:grownCap w (n+m) cap e<=maxLen:=grownCap_le_maxLen w _ _ e xN;refine⟨w.heap.size,_,_,_,gR,⟨rfl,rfl,rfl,by simp,fun k hk _=>xO w.drew _ hk⟩,heap_alloc_new w.drew _,.inr (bYT _),?_,Dn,Uq,?_⟩
  ·simp only[Array.size_append,cAJ,pY,aFE,h2,hl];rw[<-bZN,<-bZN];exact cAI _ (by omega)
  ·simp only[Array.toList_append];rw[<-h3];exact cAK
theorem jJ.drew(h:jJ E X w0 ρ al fr hp a w):jJ E X w0 ρ al fr hp a w.drew :=
 h.change ⟨bYT _,fun _ _ hx=>⟨rfl,hx⟩⟩ ⟨rfl,rfl,rfl,bYT _,fun _ _=>rfl,fun _ _=>rfl⟩
  (fun _ _=>⟨rfl,fun b' pW=>⟨b',pW,sameShape.refl _,rfl⟩⟩) (fun id b hb=>⟨(h.blk id b hb).1,(h.blk id b hb).2.later ⟨bYT _,fun _ _ hx=>⟨rfl,hx⟩⟩ rfl⟩) h.inj (fun _ h=>h) h.alh
theorem zK.front{Y:Nat->Prop}{cs:List S}{arr:Array Value}(h:zK Y w (.cells cs) arr):iY Y w cs (arr.toList.take cs.length) :=
 ⟨by have:=h.1;simp;omega,fun i s u hs hu=>by
  obtain⟨u',Xz,hr⟩:=h.2 i s hs;rw[bYY (aU hs)]at hu;have:u=u':=by simp at hu;rw[hu]at Xz;exact Option.some.inj Xz
  exact this▸hr⟩
theorem zK.Xn{Y:Nat->Prop}{cs:List S}{arr:Array Value}(h:iY Y w cs (arr.toList.take cs.length)):zK Y w (.cells cs) arr :=
 ⟨by have:=h.1;simp at this;omega,fun i s hs=>by
  have kD:=aU hs;obtain⟨u,hu⟩:=bD (l:=arr.toList.take cs.length) (i:=i) (by rw[<-h.1];exact kD);refine⟨u,?_,h.2 i s u hs hu⟩;rw[bYY kD]at hu;simpa using hu⟩
theorem iY.append{Y:Nat->Prop}{cs ds:List S}{vs us:List Value}(h:iY Y w cs vs)(h':iY Y w ds us):iY Y w (cs ++ ds) (vs ++ us) :=
 ⟨by simp[h.1,h'.1],fun i s u hs hu=>by
  by_cases hi:i<cs.length
  ·rw[bZZ hi]at hs;rw[bZZ (by rw[<-h.1];exact hi)]at hu;exact h.2 i s u hs hu
  ·rw[cAA (by omega)]at hs;rw[cAA (by rw[<-h.1];omega),<-h.1]at hu;exact h'.2 _ s u hs hu⟩
theorem Vb(h:jJ E X w0 ρ al fr hp a w)(hd:jI E.nt o=true)(wQ:∀j,j<8->¬al (id+j)){t e:TypeId}{te:TI}(wH:P.underlying t=some (.slice e))(Ps:Bp P e te){y z:Operand}(ho:o.op=.call ⟨.builtin .append,#[y,z],#[t,t]⟩)
  (he:appCells E.n0 id e te (evA E fr y) (evA E fr z) hp (fun a u=>some (a,u))=some (x,u)):jT P E X w0 al fr hp a w o id x u:=by
 obtain⟨ie,hi,rT,aWH,zv,aMV,Qe⟩:=Ps.i;have aFE:zv.cells.size=ie.size:=by
  have h1:=Ps.zl;rw[<-Qe]at h1;rw[rT,<-h1];simp
 have tQ:∀n,∀i∈refs (.v (.one (.buf id n))),oO al id i:=by
  intro n i hi;simp only[refs,refsV,refsL,bZL]at hi;subst hi;exact rL i
 have hy:=(h.ev y).1;have hz:=(h.ev z).1;unfold appCells at he;split at he
 ·rename_i j m bLU;rw[bLU]at hz;obtain⟨bGW,bKJ,_,_,_⟩:=hz;split at he
  ·rename_i ej new bWI;obtain⟨_,Vn,bVP,bMI⟩:=h.blk j _ bWI;split at he
   ·rename_i hm;obtain⟨aFH,bEW⟩:=hm;have aYY:=bMI.front;have bLK:(Vn.toList.take new.length).length=m*ie.size:=by rw[<-aYY.1,bEW,rT]
    have Yb:∀(k:Nat) v,(Vn.toList.take new.length)[k]?=some v->w.cell? ((⟨ρ j,0,none⟩:Addr).add k)=some v:=by
     intro k v hk;have aYT:=aU hk;rw[bYY (by rw[<-aYY.1]at aYT;exact aYT)]at hk;rw[mH,bYV,cell_of_row w (ρ j) k Vn _ (0,0) bVP];simpa using hk
    have Np:∀v∈Vn.toList.take new.length,v.oneCell'=true:=by
     intro v hv;obtain⟨k,hk⟩:=bZT hv;obtain⟨s,hs⟩:=bD (l:=new) (i:=k) (by rw[aYY.1];exact aU hk);exact(aYY.2 k s v hs hk).one
    split at he
    ·
     rename_i i n aYZ;rw[aYZ]at hy;obtain⟨cap,hv,Dh,_,aWG⟩:=hy;split at he
     ·rename_i e' cs bMK;split at he
      ·rename_i hk;obtain⟨rfl,Di,hn,aJV,rW,Fx⟩:=hk;obtain⟨e1,e2⟩:=Prod.mk.inj (Option.some.inj he);rw[<-e1,<-e2];obtain⟨sz,h5,h6,h7⟩:=aWG _ cs bMK rfl;have bUC:sz=ie.size:=by rw[rT];exact Nat.eq_of_mul_eq_mul_left hn (by rw[<-h5,aJV])
       subst bUC;obtain⟨_,arr,aHV,bWE⟩:=h.blk i _ bMK;rw[lE aHV]at h6;have bIB:=bWE.front;obtain⟨g',Qr,oK,w',gR,hg,bFM,aYX,sV,aHS,Uq,bHT⟩:=zP (P:=P) o.type wH hi aMV aFE aHV Dh h7 h6 ⟨ρ j,0,none⟩ bGW bLK Yb Np (by unfold maxLen;omega) (by rw[aWH];omega);have hlen:(cs ++ new).length=(n+m)*ie.size:=by rw[bZX,aJV,bEW,rT,bZN]
       have h1:=h.appended (id:=id) (c2:=.cells (cs ++ new)) bMK Di (wQ 0 (by omega)) hg bFM aYX (fun X' hl=>zK.Xn (by
        rw[hlen,bHT];refine iY.append (iY.later hl ?_) (iY.later hl aYY);rw[h5]at bIB;exact bIB))
       refine⟨_,.slice (some ⟨g',0,none⟩) (n+m) Qr,w',.inl (lH ho (f:=Builtin.append_) (fun _ _=>rfl) ?_),h1.pure hd (x:=.v (.one (.buf id (n+m)))) ?_ (tQ _)⟩
       ·simp only[bZO,bYS,bZM,hv,bKJ];exact gR
       ·refine⟨Qr,by rw[bR],aHS,fun blk k1 Zw xQ Kb=>?_,fun blk bYG xQ Kb=>?_⟩
        ·simp only[applyUps]at xQ;rw[bR]at xQ;cases xQ;cases Kb
        ·simp only[applyUps]at xQ;rw[bR]at xQ;cases xQ;cases Kb;exact⟨ie.size,hlen,by rw[bR,lE bFM];exact sV,Uq⟩
      ·cases he
     ·cases he
    ·
     rename_i aYZ;rw[aYZ]at hy;have hv:a.eval y=.slice none 0 0:=hy.1;split at he
     ·rename_i hk;obtain⟨rW,Fx⟩:=hk;obtain⟨e1,e2⟩:=Prod.mk.inj (Option.some.inj he);rw[<-e1,<-e2];have gR:=run_append_nil (P:=P) w t o.type e ie zv wH hi aMV ⟨ρ j,0,none⟩ m bGW _ bLK Yb aFH (by omega) (by rw[aWH];omega);have Dn:=grownCap_ge w m 0 e;have Uq:grownCap w m 0 e<=maxLen:=grownCap_le_maxLen w _ _ e (by unfold maxLen;omega);have bEE:((Vn.toList.take new.length).toArray ++ Builtin.zeroCells zv.cells (grownCap w m 0 e-m)).size=grownCap w m 0 e*ie.size:=by
       simp only[Array.size_append,cAJ,pY,aFE,bLK];rw[<-bZN];congr 1;omega
      have h1:=h.drew.alloc (id:=id) (al':=oO al id) (wQ 0 (by omega)) (fun _ h=>.inl h) (rL id) e (.cells new) ((Vn.toList.take new.length).toArray ++ Builtin.zeroCells zv.cells (grownCap w m 0 e-m)) (by
       refine zK.Xn ?_;have e3:((Vn.toList.take new.length).toArray ++ Builtin.zeroCells zv.cells (grownCap w m 0 e-m)).toList.take new.length=Vn.toList.take new.length:=by
        have hq:=aYY.1;generalize Vn.toList.take new.length=L at hq ⊢;rw[Array.toList_append,hq];exact cAK
       rw[e3];exact iY.later ⟨bYT _,fun _ _ hx=>⟨rfl,hx⟩⟩ aYY)
      refine⟨_,.slice (some ⟨w.heap.size,0,none⟩) m (grownCap w m 0 e),_,.inl (lH ho (f:=Builtin.append_) (fun _ _=>rfl) ?_),h1.pure hd (x:=.v (.one (.buf id m))) ?_ (tQ _)⟩
      ·simp only[bZO,bYS,bZM,hv,bKJ];exact gR
      ·refine⟨_,by rw[bR];rfl,Dn,fun blk k1 Zw xQ Kb=>?_,fun blk bYG xQ Kb=>?_⟩
       ·rw[bR]at xQ;cases xQ;cases Kb
       ·rw[bR]at xQ;cases xQ;cases Kb;refine⟨ie.size,by rw[bEW,rT],?_,Uq⟩;rw[bR,lE (xP w.drew _),bEE];exact bYT _
     ·cases he
    ·cases he
   ·cases he
  ·cases he
 ·cases he
theorem aCC(h:jJ E X w0 ρ al fr hp a w)(hd:jI E.nt o=true)(hT:oS P E.T)(wQ:∀j,j<8->¬al (id+j)){args:Array Operand}{yC:Array TypeId}(ho:o.op=.call ⟨.builtin .append,args,yC⟩)(he:qV E id o (evA E fr) hp=some (x,u)):jT P E X w0 al fr hp a w o id x u:=by
 obtain⟨args⟩:=args;obtain⟨yC⟩:=yC;unfold qV effK at he;rw[ho]at he;simp only[builtinK]at he
 match args,yC,he with
 | [y,z],[t,t'],he =>
  simp only[bYS,bZM]at he;split at he
  ·rename_i bUA;subst bUA;split at he
   ·rename_i s0 b0 z0 e yE;obtain⟨d,wH,Ew⟩:=(hT t _ yE).d;have Ew:d=.slice e:=Ew;subst Ew;split at he
    ·rename_i bytes zero k Ps;have No:=hT e _ Ps;obtain⟨ie,hi,rT,aWH,zv,aMV,Qe⟩:=No.i;have rT:ie.size=1:=rT;have aWH:ie.bytes=bytes:=aWH;have aFE:zv.cells.size=1:=by
      have h1:zero.length=1:=No.zl;have h2:zv.cells.toList=zero:=Qe;rw[<-h2]at h1;simpa using h1
     have tQ:∀i∈refs (.v (.one (.buf id 0))),oO al id i:=by
      intro i hi;simp only[refs,refsV,refsL,bZL]at hi;subst hi;exact rL i
     split at he
     ·rename_i hb8;have hy:=(h.ev y).1;split at he
      ·
       rename_i i n ms jD aTD;rw[jD]at hy;obtain⟨cap,hv,Dh,hc,_⟩:=hy;split at he
       ·rename_i e' k' ns hb;cases Hz:bZF i E.n0 with
        |true=>rw[Hz]at he;cases he
        |false =>
        rw[Hz]at he;simp only[cond_false]at he;have Hz:E.n0<=i:=by
         have:¬i<E.n0:=fun h=>by
          have h2:bZF i E.n0=true:=by rw[Nat.blt_eq];exact h
          rw[h2]at Hz;cases Hz
         omega
        split at he
        ·rename_i bVZ;obtain⟨rfl,rfl⟩:=bVZ;split at he
         ·rename_i xN;obtain⟨rU,xN⟩:=xN;obtain⟨e1,e2⟩:=Prod.mk.inj (Option.some.inj he);rw[<-e1,<-e2];obtain⟨hn,bMG,bQH⟩:=hc _ k ns hb rfl;subst hn;obtain⟨Ny,arr,aHV,aJV,bIE⟩:=h.blk i _ hb;rw[lE aHV]at bQH;obtain⟨A0,c0,aBK,kM⟩:=uQ h aTD;obtain⟨ad,hA,_⟩:=kM 0 ms[0] (bZK rU);subst hA;obtain⟨g',Qr,oK,w',gR,hg,bFM,aYX,sV,aHS,Uq,bHT⟩:=zP (P:=P) (m:=ms.length) (news:=gL k ms) o.type wH hi aMV (by omega) aHV Dh bMG (by rw[rT];omega) ad c0 (by simp[gL,rT]) (fun j v hj=>by
           simp only[gL,bYX,bZV]at hj;obtain⟨m,hm,rfl⟩:=hj;obtain⟨bRI,e1,e2⟩:=kM j m hm;cases e1;exact e2) (Ji k ms) (by unfold maxLen;unfold room at xN;omega) (by
           have:(ns.length+ms.length)*ie.bytes<=(ns.length+ms.length)*8:=cBH _ (by omega);unfold room at xN;omega)
          rw[rT,bZD]at sV;rw[rT,bZD,bZD,Pz bIE,Nl,<-bZX]at bHT;have h1:=h.appended (id:=id) (c2:=.ints k (ns ++ ms)) hb Hz (wQ 0 (by omega)) hg bFM aYX (fun _ _=>⟨by simp;omega,Qq bHT⟩);refine⟨_,.slice (some ⟨g',0,none⟩) (ns.length+ms.length) Qr,w',.inl (lH ho (f:=Builtin.append_) (fun _ _=>rfl) ?_),h1.pure hd (x:=.v (.one (.buf id (ns.length+ms.length)))) ?_ tQ⟩
          ·simp only[bZO,bYS,bZM,hv,aBK];exact gR
          ·refine⟨Qr,by rw[bR],aHS,fun blk k1 Zw rW Kb=>?_,fun blk cs rW Kb=>by simp only[applyUps]at rW;rw[bR]at rW;cases rW;cases Kb⟩;simp only[applyUps]at rW;rw[bR]at rW;cases rW;cases Kb;refine⟨by simp,Uq,?_⟩;rw[bR,lE bFM];exact sV
         ·cases he
        ·cases he
       ·cases he
      ·
       rename_i ms jD aTD;rw[jD]at hy;have hv:a.eval y=.slice none 0 0:=hy.1;split at he
       ·rename_i xN;obtain⟨rU,xN⟩:=xN;obtain⟨e1,e2⟩:=Prod.mk.inj (Option.some.inj he);rw[<-e1,<-e2];obtain⟨A0,c0,aBK,kM⟩:=uQ h aTD;obtain⟨ad,hA,_⟩:=kM 0 ms[0] (bZK rU);subst hA;have hl:(gL k ms).length=ms.length*ie.size:=by simp[gL,rT]
        have Nw:ms.length*ie.bytes<=281474976710656:=by
         have:ms.length*ie.bytes<=ms.length*8:=cBH _ (by omega);unfold room at xN;omega
        have gR:=run_append_nil (P:=P) w t o.type e ie zv wH hi aMV ad ms.length c0 (gL k ms) hl (fun j v hj=>by
         simp only[gL,bYX,bZV]at hj;obtain⟨m,hm,rfl⟩:=hj;obtain⟨bRI,e1,e2⟩:=kM j m hm;cases e1;exact e2) rU (by unfold room at xN;omega) Nw
        have Dn:=grownCap_ge w ms.length 0 e;have Uq:grownCap w ms.length 0 e<=maxLen:=grownCap_le_maxLen w _ _ e (by unfold maxLen;unfold room at xN;omega);have h1:=h.drew.alloc (id:=id) (al':=oO al id) (wQ 0 (by omega)) (fun _ h=>.inl h) (rL id) e (.ints k ms) ((gL k ms).toArray ++ Builtin.zeroCells zv.cells (grownCap w ms.length 0 e-ms.length)) (by
         refine⟨by simp[gL,pY,aFE,bZD],fun j n hn=>?_⟩;have hj:=aU hn;rw[Array.getElem?_append_left (by simp[gL];omega)];simp[gL,hn])
        refine⟨_,.slice (some ⟨w.heap.size,0,none⟩) ms.length (grownCap w ms.length 0 e),_,.inl (lH ho (f:=Builtin.append_) (fun _ _=>rfl) ?_),h1.pure hd (x:=.v (.one (.buf id ms.length))) ?_ tQ⟩
        ·simp only[bZO,bYS,bZM,hv,aBK];exact gR
        ·refine⟨_,by rw[bR];rfl,Dn,fun blk k1 Zw rW Kb=>?_,fun blk cs rW Kb=>by rw[bR]at rW;cases rW;cases Kb⟩;rw[bR]at rW;cases rW;cases Kb;refine⟨rfl,Uq,?_⟩;rw[bR,lE (xP w.drew _)];simp only[Array.size_append,cAJ,pY,aFE,bZD];simp[gL];omega
       ·cases he
      ·cases he
     ·cases he
    ·rename_i te _ Ps;exact Vb h hd wQ wH (hT e _ Ps) ho he
    ·cases he
   ·cases he
  ·cases he
 | [],_,he=>simp at he
 | [_],_,he=>simp at he
 |_ :: _ :: _ :: _,_,he=>simp at he
 | [_,_],[],he=>simp at he
 | [_,_],[_],he=>simp at he
 | [_,_],_ :: _ :: _ :: _,he=>simp at he
theorem Wu{α:Type}(f:Nat->α)(i:Nat)(b:α)(h:f i=b):Ck f i b=f:=by
 funext j
 by_cases hj:j=i
 ·subst hj;rw[bR,h]
 ·rw[gB _ _ hj]
theorem Sh(h:jJ E X w0 ρ al fr hp a w){t t' e:TypeId}{bytes:Nat}{zero:List Value}{k:IntKind}(ty:TypeId)(wH:P.underlying t=some (.slice e))(Ps:Bp P e ⟨1,bytes,zero,.int k⟩)
  {i off n dcap:Nat} {e':TypeId} {ns ms:List Int} (hb:hp i=some ⟨e',.ints k ns⟩) (hle:off+n<=ns.length) (Ad:Option Addr) (hA:0<n->Ad=some ⟨ρ i,off,none⟩)
  (As:Option Addr) (sc:Nat) (kM:∀(j:Nat) (m:Int),ms[j]?=some m->∃ad,As=some ad/\w.cell? (ad.add j)=some (.int k m)) :
  ∃w',(Builtin.copy_ #[t,t'] ty #[.slice Ad n dcap,.slice As ms.length sc]).run P w=.ok (.int .i64 (min ms.length n:Nat)) w' /\
   jJ E X w0 ρ al fr (Ck hp i (some ⟨e',.ints k (ns.take off ++ (ms.take n ++ ns.drop (off+min ms.length n)))⟩)) a w':=by
 obtain⟨ie,hi,rT,_⟩:=Ps.i;have rT:ie.size=1:=rT;have Zz:(P.info? e).map (·.size)=some 1:=by simp[hi,rT]
 obtain⟨_,arr,aHV,aJV,bIE⟩:=h.blk i _ hb
 by_cases h0:min ms.length n=0
 ·refine⟨w,?_,?_⟩
  ·have:=run_copy_none (P:=P) w t t' ty e Ad As n dcap ms.length sc wH Zz h0;rw[this,h0];rfl
  ·have hc:ns.take off ++ (ms.take n ++ ns.drop (off+min ms.length n))=ns:=by
    have:ms.take n=[]:=by
     apply cBI;rw[cBJ];omega
    rw[this,h0];simp
   rw[hc,Wu _ _ _ hb];exact h
 ·have hn:0<n:=by omega
  have hm:0<ms.length:=by omega
  have hA:=hA hn;subst hA;obtain⟨ad,rfl,_⟩:=kM 0 ms[0] (bZK hm);have hlen:(gL k (ms.take n)).length=min ms.length n:=by rw[gL,cAH,cBJ];omega
  have gR:=run_copy_row (P:=P) w t t' ty e (ρ i) off n dcap ad ms.length sc arr e' (gL k (ms.take n)) wH Zz aHV hlen (fun j v hj=>by
   simp only[gL,bYX,bZV]at hj;obtain⟨m,hm,rfl⟩:=hj;have aBR:j<n:=by have:=aU hm;simp at this;omega
   rw[bYY aBR]at hm;obtain⟨bRI,e1,e2⟩:=kM j m hm;cases e1;exact e2) (by rw[hlen];have:ns.length<=arr.size:=aJV;omega) (Ji k _)
  rw[hlen]at gR;refine⟨_,gR,?_⟩;have aJV:ns.length<=arr.size:=aJV;refine h.setRow hb _ _ ⟨fun k1 Zw e1=>?_,fun Ok e1=>by cases e1⟩ ?_ ?_
  ·cases e1;exact⟨k,ns,rfl,by simp;omega⟩
  ·rw[lE aHV];simp[hlen];omega
  ·refine⟨by simp[hlen];omega,fun j m hj=>?_⟩;have kD:(ms.take n).length=min ms.length n:=by simp;omega
   rw[<-kD,List.rB ns (ms.take n) off j (by rw[kD];omega)]at hj;have e1:(arr.toList.take off ++ gL k (ms.take n) ++ arr.toList.drop (off+min ms.length n)).toArray[j]?=(arr.toList.take off ++ (gL k (ms.take n) ++ arr.toList.drop (off+(gL k (ms.take n)).length)))[j]?:=by
    rw[hlen];simp[cAO]
   rw[e1,List.rB _ _ _ _ (by rw[hlen];simp;omega),hlen];rw[kD]at hj
   by_cases aBS:off<=j/\j<off+min ms.length n
   ·rw[if_pos aBS]at hj ⊢;simp only[gL,bYX,hj,bZH]
   ·rw[if_neg aBS]at hj ⊢;simpa using bIE j m hj
theorem aOR(h:jJ E X w0 ρ al fr hp a w)(hd:jI E.nt o=true)(hT:oS P E.T){args:Array Operand}{yC:Array TypeId}(ho:o.op=.call ⟨.builtin .copy,args,yC⟩)(he:qV E id o (evA E fr) hp=some (x,u)):jT P E X w0 al fr hp a w o id x u:=by
 obtain⟨args⟩:=args;obtain⟨yC⟩:=yC;unfold qV effK at he;rw[ho]at he;simp only[builtinK]at he
 match args,yC,he with
 | [y,z],[t,t'],he =>
  simp only[bYS,bZM]at he;split at he
  ·rename_i s0 b0 z0 e yE;obtain⟨d,wH,Ew⟩:=(hT t _ yE).d;have Ew:d=.slice e:=Ew;subst Ew;split at he
   ·rename_i bytes zero k Ps;have No:=hT e _ Ps;have hy:=(h.ev y).1;have fin:∀{i:Nat} {e':TypeId} {k':IntKind} {ns cs:List Int} {n:Nat},(∃w',(Builtin.copy_ #[t,t'] o.type (#[y,z].map a.eval)).run P w=.ok (.int .i64 n) w'/\jJ E X w0 ρ al fr (Ck hp i (some ⟨e',.ints k cs⟩)) a w') ->
      jT P E X w0 al fr hp a w o id (Df (.int .i64 n)) [(i,some ⟨e',.ints k cs⟩)]:=by
     intro i e' k' ns cs n hw;obtain⟨w',h1,h2⟩:=hw;exact⟨ρ,_,w',.inl (lH ho (f:=Builtin.copy_) (fun _ _=>rfl) h1),(h2.more id).pure hd ⟨rfl,rfl⟩ (by simp[nD])⟩
    split at he
    ·rename_i i n ms jD aTD;rw[jD]at hy;obtain⟨cap,hv,Dh,hc,_⟩:=hy;split at he
     ·rename_i e' k' ns hb;split at he
      ·rename_i hk;subst hk;obtain⟨e1,e2⟩:=Prod.mk.inj (Option.some.inj he);rw[<-e1,<-e2];obtain⟨hn,_⟩:=hc _ k ns hb rfl;obtain⟨A0,c0,aBK,kM⟩:=uQ h aTD;have:=Sh (P:=P) h (t':=t') (off:=0) (n:=n) (dcap:=cap) o.type wH No hb (by omega) (some ⟨ρ i,0,none⟩) (fun _=>rfl) A0 c0 kM;simp only[List.take_zero,List.nil_append,bYV]at this;refine fin (k':=k) (ns:=ns) ?_;simp only[bZO,bYS,bZM,hv,aBK];exact this
      ·cases he
     ·cases he
    ·rename_i i off n ms jD aTD;rw[jD]at hy;obtain⟨Ad,cap,hv,Dh,hA,hc⟩:=xF hy;split at he
     ·rename_i e' k' ns hb;split at he
      ·rename_i hk;obtain⟨rfl,hle⟩:=hk;obtain⟨e1,e2⟩:=Prod.mk.inj (Option.some.inj he);rw[<-e1,<-e2];obtain⟨A0,c0,aBK,kM⟩:=uQ h aTD;have:=Sh (P:=P) h (t':=t') (off:=off) (n:=n) (dcap:=cap) o.type wH No hb hle Ad hA A0 c0 kM;refine fin (k':=k) (ns:=ns) ?_;simp only[bZO,bYS,bZM,hv,aBK];exact this
      ·cases he
     ·cases he
    ·cases he
   ·cases he
  ·cases he
 | [],_,he=>simp at he
 | [_],_,he=>simp at he
 |_ :: _ :: _ :: _,_,he=>simp at he
 | [_,_],[],he=>simp at he
 | [_,_],[_],he=>simp at he
 | [_,_],_ :: _ :: _ :: _,he=>simp at he
def mI(Y:Nat->Prop)(w:World):D->Value->Prop
 | .s x,v=>oT Y w x v
 | .rows sz n f,v=>∃A c,v=.slice A n c/\n<=c/\∀i,i<n->(f i).length=sz/\∃b off,A=some ⟨b,off,none⟩/\uZ Y w b (off+i*sz) (f i)
 | .agg cs,v=>∃arr,v=.agg arr/\iY Y w cs arr.toList
 | .own _ k ns,v=>oT Y w (.ints k ns) v
 | .io _ _ _ _ _,_=>False
 | .back _ _ _,_=>False
def Su(base:Nat)(w:World)(g:Nat)(e:TypeId)(k:IntKind)(ns:List Int)(v:Value):Prop :=
 ∃arr cap,v=.slice (some ⟨g,0,none⟩) ns.length cap/\base<=g/\w.heap[g]?=some (.cells arr e (0,0))/\ns.length<=cap/\cap<=arr.size/\cap<=maxLen/\∀(j:Nat) (n:Int),ns[j]?=some n->arr[j]?=some (Value.int k n)
def kX:D->Bool
 | .own _ _ _=>true
 |_=>false
def Wa(Y:Nat->Prop)(base:Nat)(w:World)(rs:List D)(vs:List Value):Prop :=
 ∃g:Nat->Nat,rs.length=vs.length/\(∀(i j:Nat) (d d':D),rs[i]?=some d->rs[j]?=some d'->kX d=true->kX d'=true->g i=g j->i=j) /\
  ∀(i:Nat) (d:D) (v:Value),rs[i]?=some d->vs[i]?=some v->match d with
   | .own e k ns=>Su base w (g i) e k ns v
   |d=>mI (fun b=>Y b\/∃(j:Nat) (d':D),rs[j]?=some d'/\kX d'=true/\g j=b) w d v
def resV:List Value->Value
 | [v]=>v
 |vs=>.tuple vs.toArray
def Contract(P:Program)(glob:Nat->Option (IntKind×List Int))(f:FuncId)(ds rs:List D):Prop :=
 ∀(Y:Nat->Prop) (w:World) (vs:List Value),(∀b,Y b->b<w.heap.size)->GlobOk glob Y w->ds.length=vs.length ->
  (∀(i:Nat) (d:D) (v:Value),ds[i]?=some d->vs[i]?=some v->mI Y w d v) ->
  Calls P f vs.toArray w fun e w'=>∃tF,e=.returned (resV tF)/\Below w.heap.size w w'/\Wa Y w.heap.size w' rs tF
def aCT(w:World)(g len off n:Nat)(v:Value):Prop :=
 ∃o' cap,v=.slice (some ⟨g,o',none⟩) n cap/\n<=cap/\(0<n->o'=off)/\(off=0->o'=0)/\off+n<=len/\cap<=maxLen/\cap<=lV w g
def bBC(w:World)(g:Nat)(e:TypeId)(k:IntKind)(ns:List Int)(off n:Nat)(v:Value):Prop :=
 aCT w g ns.length off n v/\Gu (fun _=>False) w g ⟨e,.ints k ns⟩
def Ft:D->Bool
 | .io _ _ _ _ _=>true
 |_=>false
def aGT(Y:Nat->Prop)(w:World)(g:Nat->Nat)(i:Nat)(v:Value):D->Prop
 | .io e k ns off n=>Y (g i)/\bBC w (g i) e k ns off n v
 |d=>mI Y w d v
def Wl(w:World)(b:Nat):D->Prop
 | .io e k ns _ _=>Gu (fun _=>False) w b ⟨e,.ints k ns⟩
 |_=>False
structure En(M:Nat->Prop)(w w':World):Prop where
 os:w'.os=w.os
 tape:w'.tape=w.tape
 output:w'.output=w.output
 size:w.heap.size<=w'.heap.size
 block:∀b,b<w.heap.size->¬M b->w'.heap[b]?=w.heap[b]?
 room:∀b,M b->lV w' b=lV w b
def Ei(ps:List Nat)(g:Nat->Nat)(b:Nat):Prop:=∃i,i∈ps/\g i=b
def aWS(ps:List Nat)(ds js:List D):Prop :=
 ∀(j i:Nat),ps[j]?=some i->∃e k ns off n e' k' nV,ds[i]?=some (.io e k ns off n)/\js[j]?=some (.io e' k' nV 0 0)/\nV.length=ns.length
def bOA(Y:Nat->Prop)(base:Nat)(w:World)(ps:List Nat)(js:List D)(g0:Nat->Nat)(gi:Nat)(v:Value):D->Prop
 | .own e k ns=>Su base w gi e k ns v
 | .back p off n=>∃(j:Nat) (e:TypeId) (k:IntKind) (ns:List Int),ps[j]?=some p/\js[j]?=some (.io e k ns 0 0)/\aCT w (g0 p) ns.length off n v
 |d=>mI Y w d v
def Vz(Y:Nat->Prop)(base:Nat)(w:World)(ps:List Nat)(js:List D)(g0:Nat->Nat)(rs:List D)(vs:List Value):Prop :=
 ∃g:Nat->Nat,rs.length=vs.length/\(∀(i j:Nat) (d d':D),rs[i]?=some d->rs[j]?=some d'->kX d=true->kX d'=true->g i=g j->i=j) /\
  ∀(i:Nat) (d:D) (v:Value),rs[i]?=some d->vs[i]?=some v->bOA (fun b=>Y b\/∃(j:Nat) (d':D),rs[j]?=some d'/\kX d'=true/\g j=b) base w ps js g0 (g i) v d
structure pP(P:Program)(glob:Nat->Option (IntKind×List Int))(f:FuncId)(ps:List Nat)(ds rs js:List D):Prop where
 len:js.length=ps.length
 io:aWS ps ds js
 run:∀(Y:Nat->Prop) (w:World) (vs:List Value) (g:Nat->Nat),(∀b,Y b->b<w.heap.size)->GlobOk glob Y w->ds.length=vs.length ->
  (∀(i:Nat) (d:D) (v:Value),ds[i]?=some d->vs[i]?=some v->aGT Y w g i v d)->(∀i j,i∈ps->j∈ps->g i=g j->i=j) ->
  Calls P f vs.toArray w fun e w'=>∃tF,e=.returned (resV tF)/\En (Ei ps g) w w'/\Vz Y w.heap.size w' ps js g rs tF/\∀(j i:Nat) (d:D),ps[j]?=some i->js[j]?=some d->Wl w' (g i) d
def pE(P:Program)(f:FuncId):Prop:=∀(vs:Array Value) (w:World),(callFunc f vs).run P w=.ok (.enter f vs) w
structure kO(P:Program)(E:Env):Prop where
 c:∀f ds g rs,E.ioF f=[]->E.C f ds=some (g,rs)->g->Contract P E.glob f ds rs/\pE P f
 i:∀f p ps ds g rs,E.ioF f=p :: ps->E.C f ds=some (g,rs)->g->∃Hk js,rs=Hk ++ js/\pP P E.glob f (p :: ps) ds Hk js/\pE P f
 x:∀f vs g rs,E.ext f vs=some (g,rs)->g->(∀v∈rs,v.oneCell'=true)/\∀w,(callFunc f vs.toArray).run P w=.ok (.value (resV rs)) w
theorem mI.later{Y Y':Nat->Prop}{w w':World}(h:iJ Y w Y' w'){d:D}{v:Value}(r:mI Y w d v):mI Y' w' d v:=by
 cases d with
 |s x=>exact oT.later h r
 |rows sz n f =>
  obtain⟨A0,c,hv,hle,hc⟩:=r;refine⟨A0,c,hv,hle,fun i hi=>?_⟩;obtain⟨hl,b,off,hA,Up⟩:=hc i hi;exact⟨hl,b,off,hA,Up.later h⟩
 |agg cs=>obtain⟨arr,hv,hr⟩:=r;exact⟨arr,hv,hr.later h⟩
 |own e k ns=>exact oT.later (s:=.ints k ns) h r
 |io=>exact r
 |back=>exact r
theorem oT.any{Y Y':Nat->Prop}{w w':World}{x:S}{v:Value}(hs:Kp x=false)(r:oT Y w x v):oT Y' w' x v:=by
 cases x with
 |sc u=>exact r
 |bot=>exact r
 |ints k ns=>cases hs
 |pt x=>cases hs
 |Vh f xs=>cases hs
theorem mI.any{Y Y':Nat->Prop}{w w':World}{d:D}{v:Value}(hs:shares d=false)(ho:kX d=false)(r:mI Y w d v):mI Y' w' d v:=by
 cases d with
 |s x=>exact oT.any hs r
 |rows sz n f=>cases hs
 |agg cs =>
  obtain⟨arr,hv,hl,hr⟩:=r;refine⟨arr,hv,hl,fun i s u h1 h2=>(hr i s u h1 h2).any ?_⟩;have:=List.any_eq_false.1 (show cs.any Kp=false from hs) s (bZC h1);simpa using this
 |own e k ns=>cases ho
 |io=>exact r
 |back=>exact r
def aCO(args:List A):qR:=(args.flatMap refs).map fun i=>(i,none)
theorem Zh(args:List A):Cons (aCO args):=by
 intro p hp;obtain⟨i,_,rfl⟩:=List.mem_map.1 hp;rfl
theorem Hd(h:jJ E X w0 ρ al fr hp a w){u:qR}(hu:Cons u){y:A}{v:Value}(hr:xE ρ hp (XO X ρ hp) w y v)(aBS:∀i∈refs y,(i,none)∈u){d:D}(hd:toD hp y=some d):mI (XO X ρ (applyUps u hp)) w d v:=by
 have hl:iJ (XO X ρ hp) w (XO X ρ (applyUps u hp)) w:=iJ.cons hu;unfold toD at hd;split at hd
 ·cases hd;obtain⟨arr,hv,hs⟩:=hr;exact⟨arr,hv,hs.later hl⟩
 ·cases hd;exact oT.later hl hr
 ·cases hd;exact mI.later hl (d:=.rows _ _ _) hr
 ·rename_i i n;split at hd
  ·rename_i e k ns hb;cases hd;obtain⟨cap,hv,Dh,hc,_⟩:=hr;obtain⟨hn,_⟩:=hc _ k ns hb rfl;subst hn;refine⟨_,cap,hv,Dh,fun j m hj=>⟨ρ i,0,rfl,h.jK hb,h.Sb hb hu (aBS i (by simp[refs,refsV,refsL])),?_⟩⟩;rw[bYV];exact h.yZ hb hj
  ·rename_i e cs hb;split at hd
   ·rename_i hlen;cases hd;obtain⟨cap,hv,Dh,_⟩:=hr;refine⟨_,cap,hv,Dh,fun j hj=>?_⟩;have hle:(j+1)*(cs.length/n)<=n*(cs.length/n):=cAI _ hj;rw[bZN,Nat.one_mul]at hle;refine⟨by simp;omega,ρ i,0,rfl,fun m s hm=>?_⟩;have bLH:m<cs.length/n:=by
     have:=aU hm;simp at this;omega
    rw[bYY bLH,bZG]at hm;obtain⟨_,hB⟩:=h.blk i _ hb;obtain⟨arr,aTL,bGA⟩:=hB;obtain⟨aWB,Up⟩:=bGA;obtain⟨u0,bBO,bPS⟩:=Up _ _ hm;refine⟨h.jK hb,h.Sb hb hu (aBS i (by simp[refs,refsV,refsL])),u0,?_,oT.later hl bPS⟩;rw[cell_of_row w (ρ i) _ arr e (0,0) aTL,bYV];exact bBO
   ·cases hd
  ·cases hd
 ·rename_i i off n;split at hd
  ·rename_i e k ns hb;cases hd;obtain⟨A0,cap,hv,Dh,hA,hc⟩:=xF hr;have hle:=hc _ k ns hb rfl;have hlen:((ns.drop off).take n).length=n:=by simp;omega
   refine⟨A0,cap,by rw[hlen];exact hv,by rw[hlen];exact Dh,fun j m hj=>?_⟩;have aBR:j<n:=by have:=aU hj;omega
   refine⟨ρ i,off,hA (by omega),h.jK hb,h.Sb hb hu (aBS i (by simp[refs,refsV,refsL])),?_⟩;rw[bYY aBR,bZG]at hj;exact h.yZ hb hj
  ·cases hd
 ·cases hd
theorem jJ.called(h:jJ E X w0 ρ al fr hp a w){w':World}(hB:Below w.heap.size w w'){ρ':Nat->Nat}{hp':Nat->Option kQ}{al':Nat->Prop}(sJ:∀i,al i->al' i)
  (hold:∀i,al i->ρ' i=ρ i/\hp' i=hp i) (tQ:∀i b,hp' i=some b->¬al i->al' i/\w.heap.size<=ρ' i/\∀Y,Gu Y w' (ρ' i) b)
  (Bf:∀i j b c,hp' i=some b->hp' j=some c->¬al i->¬al j->ρ' i=ρ' j->i=j):jJ E X w0 ρ' al' fr hp' a w'/\iJ (XO X ρ hp) w (XO X ρ' hp') w':=by
 have aBU:Kept w0 w w':=⟨hB.os,hB.tape,hB.output,hB.size,fun b hb=>hB.block b (by have:=h.below.size;have:=Old.Xm hb;omega),fun b hb=>xY (hB.block b (by have:=h.below.size;have:=w0.bDF b hb;omega))⟩;have hl:iJ (XO X ρ hp) w (XO X ρ' hp') w':=by
  refine⟨hB.size,fun b hb hx=>⟨hB.block b hb,fun ho=>?_⟩⟩;rcases ho with ho |⟨i,bl,h1,h2⟩
  ·exact hx (.inl ho)
  ·by_cases hi:al i
   ·obtain⟨e1,e2⟩:=hold i hi;exact hx (.inr ⟨i,bl,by rw[<-e2];exact h1,by rw[<-e1];exact h2⟩)
   ·have:=(tQ i bl h1 hi).2.1;omega
 refine⟨h.change hl aBU ?_ ?_ ?_ sJ ?_,hl⟩
 ·intro i hi;obtain⟨e1,e2⟩:=hold i hi;refine⟨e1,fun b' pW=>?_⟩;rw[e2]at pW;refine⟨b',pW,sameShape.refl _,?_⟩;unfold lV;rw[hB.block _ (h.jK pW)]
 ·intro i b hb
  by_cases hi:al i
  ·obtain⟨e1,e2⟩:=hold i hi;rw[e2]at hb;rw[e1];exact⟨(h.blk i b hb).1,(h.blk i b hb).2.later hl (hB.block _ (h.jK hb))⟩
  ·obtain⟨_,h2,h3⟩:=tQ i b hb hi;exact⟨.inl (bZP h.below.size h2),h3 _⟩
 ·intro i j b c hb hc e
  by_cases hi:al i
  ·obtain⟨e1,e2⟩:=hold i hi
   by_cases hj:al j
   ·obtain⟨e3,e4⟩:=hold j hj;rw[e2]at hb;rw[e4]at hc;rw[e1,e3]at e;exact h.inj i j b c hb hc e
   ·rw[e2]at hb;have:=h.jK hb;have:=(tQ j c hc hj).2.1;omega
  ·by_cases hj:al j
   ·obtain⟨e3,e4⟩:=hold j hj;rw[e4]at hc;have:=h.jK hc;have:=(tQ i b hb hi).2.1;omega
   ·exact Bf i j b c hb hc hi hj e
 ·intro i b hb
  by_cases hi:al i
  ·exact sJ i hi
  ·exact(tQ i b hb hi).1
theorem jJ.aPO(h:jJ E X w0 ρ al fr hp a w){w':World}{M:Nat->Prop}(hB:En M w w')(hM:∀b,M b->Own ρ hp b){ρ':Nat->Nat}{hp':Nat->Option kQ}{al':Nat->Prop}(sJ:∀i,al i->al' i)
  (hρ:∀i,al i->ρ' i=ρ i)
  (hold:∀i b',al i->hp' i=some b'->(¬M (ρ i)/\hp i=some b')\/(M (ρ i)/\∃b,hp i=some b/\sameShape b b'/\∀Y,Gu Y w' (ρ i) b'))
  (tQ:∀i b,hp' i=some b->¬al i->al' i/\w.heap.size<=ρ' i/\∀Y,Gu Y w' (ρ' i) b)
  (Bf:∀i j b c,hp' i=some b->hp' j=some c->¬al i->¬al j->ρ' i=ρ' j->i=j):jJ E X w0 ρ' al' fr hp' a w'/\iJ (XO X ρ hp) w (XO X ρ' hp') w':=by
 have bEX:∀b,M b->w0.Jz b:=fun b hb=>by
  obtain⟨id,bl,h1,rfl⟩:=hM b hb;exact(h.blk id bl h1).1.Jz
 have aBU:Kept w0 w w':=⟨hB.os,hB.tape,hB.output,hB.size,fun b hb=>hB.block b (by have:=h.below.size;have:=Old.Xm hb;omega) (fun hm=>hb (bEX b hm)),fun b hb=>by
  by_cases hm:M b
  ·exact hB.room b hm
  ·exact xY (hB.block b (by have:=h.below.size;have:=w0.bDF b hb;omega) hm)⟩
 have Yh:∀i b',al i->hp' i=some b'->∃b,hp i=some b/\sameShape b b':=by
  intro i b' hi hb;rcases hold i b' hi hb with ⟨_,h2⟩ |⟨_,b,h2,h3,_⟩
  ·exact⟨b',h2,sameShape.refl _⟩
  ·exact⟨b,h2,h3⟩
 have hl:iJ (XO X ρ hp) w (XO X ρ' hp') w':=by
  refine⟨hB.size,fun b hb hx=>⟨hB.block b hb (fun hm=>hx (.inr (hM b hm))),fun ho=>?_⟩⟩;rcases ho with ho |⟨i,bl,h1,h2⟩
  ·exact hx (.inl ho)
  ·by_cases hi:al i
   ·obtain⟨b0,h3,_⟩:=Yh i bl hi h1;exact hx (.inr ⟨i,b0,h3,by rw[<-hρ i hi];exact h2⟩)
   ·have:=(tQ i bl h1 hi).2.1;omega
 have rT:∀i b,al i->hp i=some b->lV w' (ρ i)=lV w (ρ i):=by
  intro i b hi hb
  by_cases hm:M (ρ i)
  ·exact hB.room _ hm
  ·exact xY (hB.block _ (h.jK hb) hm)
 refine⟨h.change hl aBU ?_ ?_ ?_ sJ ?_,hl⟩
 ·intro i hi;refine⟨hρ i hi,fun b' pW=>?_⟩;obtain⟨b,h2,h3⟩:=Yh i b' hi pW;exact⟨b,h2,h3,rT i b hi h2⟩
 ·intro i b hb
  by_cases hi:al i
  ·rw[hρ i hi];rcases hold i b hi hb with ⟨hm,h2⟩ |⟨_,b0,h2,_,h4⟩
   ·exact⟨(h.blk i b h2).1,(h.blk i b h2).2.later hl (hB.block _ (h.jK h2) hm)⟩
   ·exact⟨(h.blk i b0 h2).1,h4 _⟩
  ·obtain⟨_,h2,h3⟩:=tQ i b hb hi;exact⟨.inl (bZP h.below.size h2),h3 _⟩
 ·intro i j b c hb hc e
  by_cases hi:al i
  ·obtain⟨b0,h1,_⟩:=Yh i b hi hb
   by_cases hj:al j
   ·obtain⟨c0,h2,_⟩:=Yh j c hj hc;rw[hρ i hi,hρ j hj]at e;exact h.inj i j b0 c0 h1 h2 e
   ·rw[hρ i hi]at e;have:=h.jK h1;have:=(tQ j c hc hj).2.1;omega
  ·by_cases hj:al j
   ·obtain⟨c0,h2,_⟩:=Yh j c hj hc;rw[hρ j hj]at e;have:=h.jK h2;have:=(tQ i b hb hi).2.1;omega
   ·exact Bf i j b c hb hc hi hj e
 ·intro i b hb
  by_cases hi:al i
  ·exact sJ i hi
  ·exact(tQ i b hb hi).1
theorem Aj(keep:Bool):∀(rs:List D) (id:Nat),(takeAll keep id rs).1.length=rs.length
 | [],_=>rfl
 |d :: r,id=>by simp[takeAll,Aj keep r (id+1)]
theorem Ak(keep:Bool):∀(rs:List D) (id:Nat) (i:Nat) (d:D),rs[i]?=some d->(takeAll keep id rs).1[i]?=some (takeIn keep (id+i) d).1
 |d0 :: r,id,0,d,h=>by simp at h;subst h;rfl
 |d0 :: r,id,i+1,d,h=>by
  simp only[cAQ]at h;have:=Ak keep r (id+1) i d h;simp only[takeAll,cAQ,this];rw[show id+1+i=id+(i+1) by omega]
theorem takeAll_ups(keep:Bool):∀(rs:List D) (id:Nat) (hp:Nat->Option kQ) (j:Nat),
  applyUps (takeAll keep id rs).2 hp j=match (if id<=j then rs[j-id]? else none)with
   |some (.own e k ns)=>if keep=true then some ⟨e,.ints k ns⟩else hp j
   |_=>hp j
 | [],id,hp,j=>by simp[takeAll,applyUps]
 |d :: r,id,hp,j=>by
  simp only[takeAll];rw[lF,takeAll_ups keep r (id+1)]
  by_cases hj:id+1<=j
  ·rw[if_pos hj,aW];have e:j-id=(j-(id+1))+1:=by omega
   rw[e,cAQ];have hd:applyUps (takeIn keep id d).2 hp j=hp j:=by
    cases d <;> cases keep <;> first |rfl | (simp only[takeIn,cond_true,applyUps];rw[gB _ _ (by omega)])
   rw[hd]
  ·rw[if_neg hj]
   by_cases bVH:id<=j
   ·obtain rfl:j=id:=by omega
    rw[if_pos (bYT _),Nat.sub_self];cases d <;> cases keep <;> simp[takeIn,applyUps,bR]
   ·rw[if_neg bVH];cases d <;> cases keep <;> first |rfl | (simp only[takeIn,cond_true,applyUps];rw[gB _ _ (by omega)])
end
end AI
namespace AI
open Go Go.RowKit
section
variable {P:Program} {E:Env} {X:Nat->Prop} {w0:Old} {ρ:Nat->Nat} {al:Nat->Prop} {fr:Nat->A} {hp:Nat->Option kQ} {a:Act} {w:World} {o:Oper} {id:Nat} {x:A} {u:qR}
def Pb(P:Program)(E:Env)(X:Nat->Prop)(w0:Old)(al:Nat->Prop)(fr:Nat->A)(hp:Nat->Option kQ)(a:Act)(w:World)(o:Oper)(id:Nat)(x:A)(u:qR):Prop :=
 ∀(next:Act->World->Prop) (Q:Exit->Act->World->Prop),(∀ρ' v w',jJ E X w0 ρ' (oO al id) (Ed o x fr) (applyUps u hp) (a.put o.dst v) w'->next (a.put o.dst v) w')->o.wp P a w next Q
theorem jT.step(h:jT P E X w0 al fr hp a w o id x u):Pb P E X w0 al fr hp a w o id x u:=by
 intro next Q hn;obtain⟨ρ',v,w',hr,hs⟩:=h;unfold Oper.wp;rcases hr with hr |⟨hr,rfl⟩
 ·rw[hr];exact hn ρ' v w' hs
 ·rw[hr];exact hn ρ' undef w' hs
theorem Xu{α β:Type}{f:α->Option β}:∀{l:List α} {r:List β},l.mapM f=some r->∀(i:Nat) (y:β),r[i]?=some y->∃x,l[i]?=some x/\f x=some y
 | [],r,h,i,y,hy=>by simp at h;subst h;simp at hy
 |x :: l,r,h,i,y,hy=>by
  rw[cAC]at h;simp only[cAY,cAZ,cBA,Option.some.injEq]at h;obtain⟨z,hz,zs,aFE,rfl⟩:=h
  match i with
  |0=>simp at hy;subst hy;exact⟨x,rfl,hz⟩
  |i+1=>simp at hy ⊢;exact Xu aFE i y hy
theorem aBF{args:List A}{y:A}(hy:y∈args){i:Nat}(hi:i∈refs y):(i,none)∈aCO args :=
 List.mem_map.2 ⟨i,List.mem_flatMap.2 ⟨y,hy,hi⟩,rfl⟩
theorem Dq(h:jJ E X w0 ρ al fr hp a w):∀{args:List Operand} {vs:List Value},argVals (args.map (evA E fr))=some vs->args.map a.eval=vs
 | [],vs,he=>by cases he;rfl
 |y :: ys,vs,he=>by
  simp only[bYS]at he ⊢;unfold argVals at he;split at he
  ·cases ‹_ :: _=[]›
  ·rename_i v r jD;obtain⟨e1,e2⟩:=List.cons.inj jD;obtain⟨vr,bPE,rfl⟩:=Option.map_eq_some_iff.1 he;have hy:=(h.ev y).1;rw[e1]at hy;rw[<-e2]at bPE;rw[Dq h bPE,hy.1]
  ·cases he
theorem Ob{R:Type}{g:Prop}{x:Option R}{r:R}(h:aO g x=some r):g/\x=some r:=by
 unfold aO at h;split at h
 ·rename_i hg;exact⟨hg,h⟩
 ·cases h
theorem aTP{R:Type}{g:Prop}{x:Option R}(h:g):aO g x=x:=by unfold aO;rw[if_pos h]
theorem aTZ (h : jJ E X w0 ρ al fr hp a w) (hd : jI E.nt o = true) (hC : kO P E) {f : FuncId} {fo : Operand} (hf : a.eval fo = .func (.func f) #[] #[]) {args : List Operand} {yC : Array TypeId} (ho : o.op = .call ⟨.value fo, args.toArray, yC⟩) {g : Prop} {rs : List Value} (hr : (argVals (args.map (evA E fr))).bind (E.ext f) = some (g, rs)) (hg : g)
    (he : some (bDA rs, []) = some (x, u)) : jT P E X w0 al fr hp a w o id x u := by
  obtain ⟨vs, bDX, hx⟩ := Option.bind_eq_some_iff.1 hr
  obtain ⟨Np, gR⟩ := hC.x f vs g rs hx hg
  have hargs := Dq h bDX
  have hex : (execOp a.eval o).run P w = .ok (.value (resV rs)) w := by
    unfold execOp
    rw [ho]
    simp only [resolve, hf, Deferred.ofValue, Sem.run_bind, Sem.run_pure, Result.andThen_ok, invoke]
    rw [← gR w]
    congr 1
    simp [← hargs]
  match rs, he with
  | [v], he =>
    obtain ⟨e1, e2⟩ := Prod.mk.inj (Option.some.inj he)
    rw [← e1, ← e2]
    exact cO h hd hex ⟨rfl, Np v (by simp)⟩ (by intro i hi; cases hi)
  | [], he =>
    obtain ⟨e1, e2⟩ := Prod.mk.inj (Option.some.inj he)
    rw [← e1, ← e2]
    exact cO h hd hex ⟨#[], rfl, rfl, fun i y v hy => by simp at hy⟩ (by intro i hi; cases hi)
  | v1 :: v2 :: vr, he =>
    obtain ⟨e1, e2⟩ := Prod.mk.inj (Option.some.inj he)
    rw [← e1, ← e2]
    refine cO h hd hex ⟨(v1 :: v2 :: vr).toArray, rfl, by simp, fun i y v hy hv => ?_⟩ ?_
    · simp only [bYX, bZV] at hy
      obtain ⟨q, hq, rfl⟩ := hy
      have : q = v := by have : (v1 :: v2 :: vr)[i]? = some v := by simpa using hv
                         rw [hq] at this; exact Option.some.inj this
      subst this
      exact ⟨rfl, Np q (bZC hq)⟩
    · intro j hj
      obtain ⟨y, hy, hj⟩ := List.mem_flatMap.1 hj
      obtain ⟨q, _, rfl⟩ := List.mem_map.1 hy
      simp [refsV, refsL] at hj
theorem aFB:∀{l r:List Nat},leqN l r=true->l=r
 | [],[],_=>rfl
 |a :: l,b :: r,h=>by
  simp only[leqN,bYZ]at h;rw[bZI h.1,aFB h.2]
 | [],_ :: _,h=>by cases h
 |_ :: _,[],h=>by cases h
theorem Bn(ps:List Nat)(hp:Nat->Option kQ):∀(args:List A) (i:Nat) (us:List (Nat×Nat)) (ds:List D),argsIO ps hp i args=some (us,ds) ->
  (∃gid:Nat->Nat,∀q∈us,i<=q.1/\gid q.1=q.2)/\(∀q∈us,∃y d,args[q.1-i]?=some y/\i<=q.1/\toIO hp y=some (q.2,d)/\ds[q.1-i]?=some d)/\ds.length=args.length /\
  ∀(j:Nat) (d:D),ds[j]?=some d->∃y,args[j]?=some y/\((∃k,toIO hp y=some (k,d)/\(i+j,k)∈us)\/(toD hp y=some d/\∀r∈refs y,r∈pZ ps i args))
 | [],i,us,ds,h=>by
  cases h;exact⟨⟨fun _=>0,fun q hq=>by cases hq⟩,fun q hq=>(by cases hq),rfl,fun j d hj=>by simp at hj⟩
 |y :: args,i,us,ds,h=>by
  unfold argsIO at h;cases Hy:ps.elem i with
  |true =>
   rw[Hy]at h;simp only[cond_true]at h;split at h
   ·rename_i k d Nt;split at h
    ·rename_i bOJ ds' hr;cases h;obtain⟨⟨gid,h1⟩,h2,h3,h4⟩:=Bn ps hp args (i+1) bOJ ds' hr;refine⟨⟨fun q=>if q=i then k else gid q,?_⟩,?_,by simp[h3],?_⟩
     ·intro q hq;rcases List.mem_cons.1 hq with rfl |hq
      ·exact⟨bYT _,by simp⟩
      ·obtain⟨h5,h6⟩:=h1 q hq;exact⟨by omega,by simp only;rw[aP];exact h6⟩
     ·intro q hq;rcases List.mem_cons.1 hq with rfl |hq
      ·exact⟨y,d,by simp,bYT _,Nt,by simp⟩
      ·obtain⟨y',d',h5,h6,h7,h8⟩:=h2 q hq;exact⟨y',d',by rw[show q.1-i=(q.1-(i+1))+1 by omega];simpa using h5,by omega,h7,by rw[show q.1-i=(q.1-(i+1))+1 by omega];simpa using h8⟩
     ·intro j d' hj
      match j with
      |0 =>
       simp at hj;subst hj;exact⟨y,rfl,.inl ⟨k,Nt,by simp⟩⟩
      |j+1 =>
       obtain⟨y',h5,h6⟩:=h4 j d' (by simpa using hj);refine⟨y',by simpa using h5,?_⟩;rcases h6 with ⟨k',h7,h8⟩ |⟨h7,h8⟩
       ·exact .inl ⟨k',h7,bZE _ (by rw[show i+(j+1)=i+1+j by omega];exact h8)⟩
       ·exact .inr ⟨h7,fun r hr=>by unfold pZ;exact cBK _ (h8 r hr)⟩
    ·cases h
   ·cases h
  |false =>
   rw[Hy]at h;simp only[cond_false]at h;split at h
   ·rename_i d Nt;split at h
    ·rename_i bOJ ds' hr;cases h;obtain⟨⟨gid,h1⟩,h2,h3,h4⟩:=Bn ps hp args (i+1) us ds' hr;refine⟨⟨gid,fun q hq=>⟨by have:=(h1 q hq).1;omega,(h1 q hq).2⟩⟩,?_,by simp[h3],?_⟩
     ·intro q hq;obtain⟨y',d',h5,h6,h7,h8⟩:=h2 q hq;exact⟨y',d',by rw[show q.1-i=(q.1-(i+1))+1 by omega];simpa using h5,by omega,h7,by rw[show q.1-i=(q.1-(i+1))+1 by omega];simpa using h8⟩
     ·intro j d' hj
      match j with
      |0 =>
       simp at hj;subst hj;exact⟨y,rfl,.inr ⟨Nt,fun r hr=>by unfold pZ;rw[Hy];exact List.mem_append_left _ hr⟩⟩
      |j+1 =>
       obtain⟨y',h5,h6⟩:=h4 j d' (by simpa using hj);refine⟨y',by simpa using h5,?_⟩;rcases h6 with ⟨k',h7,h8⟩ |⟨h7,h8⟩
       ·exact .inl ⟨k',h7,by rw[show i+(j+1)=i+1+j by omega];exact h8⟩
       ·exact .inr ⟨h7,fun r hr=>by unfold pZ;exact cBK _ (h8 r hr)⟩
    ·cases h
   ·cases h
theorem Jn:∀(us:List (Nat×Nat)) (js:List D) (ub:qR),backIO us js=some ub->ub.map (·.1)=us.map (·.2)/\∀(j:Nat) (q:Nat×Nat),us[j]?=some q->∃e k ns o n,js[j]?=some (.io e k ns o n)/\ub[j]?=some (q.2,some ⟨e,.ints k ns⟩)
 | [],[],ub,h=>by cases h;exact⟨rfl,fun j q hj=>by simp at hj⟩
 | (p,k) :: us,d :: js,ub,h=>by
  cases d with
  |io e kk ns o n =>
   simp only[backIO]at h;split at h
   ·rename_i bRZ hr;cases h;obtain⟨h1,h2⟩:=Jn us js bRZ hr;refine⟨by simp[h1],fun j q hj=>?_⟩
    match j with
    |0=>simp at hj;subst hj;exact⟨e,kk,ns,o,n,rfl,rfl⟩
    |j+1 =>
     obtain⟨e',k',nV,o',n',h3,h4⟩:=h2 j q (by simpa using hj);exact⟨e',k',nV,o',n',by simpa using h3,by simpa using h4⟩
   ·cases h
  |s=>cases h
  |rows=>cases h
  |agg=>cases h
  |own=>cases h
  |back=>cases h
 | [],_ :: _,ub,h=>by cases h
 |_ :: _,[],ub,h=>by cases h
theorem sQ{i:Nat}:∀{u:qR} {hp:Nat->Option kQ},i ∉ u.map (·.1)->applyUps u hp i=hp i
 | [],_,_=>rfl
 | (j,b) :: u,hp,h=>by
  simp only[bYS,cAB,not_or]at h;simp only[applyUps];rw[sQ h.2,gB _ _ h.1]
theorem Jo{i:Nat}{b:Option kQ}:∀{u:qR} {hp:Nat->Option kQ} {j:Nat},nodup (u.map (·.1))=true->u[j]?=some (i,b)->applyUps u hp i=b
 | [],_,j,_,h=>by simp at h
 | (k,c) :: u,hp,j,hn,h=>by
  simp only[bYS,nodup,bYZ,cAD]at hn
  match j with
  |0 =>
   simp at h;obtain⟨rfl,rfl⟩:=h;simp only[applyUps];rw[sQ (fun hm=>by
    have:(u.map (·.1)).elem k=true:=by simpa using hm
    rw[this]at hn;cases hn.1),bR]
  |j+1 =>
   simp only[applyUps];exact Jo (j:=j) hn.2 (by simpa using h)
theorem Hq{α:Type}{f:α->Nat}:∀{l:List α} {j j':Nat} {q q':α},nodup (l.map f)=true->l[j]?=some q->l[j']?=some q'->f q=f q'->j=j'
 | [],j,_,q,_,_,h,_,_=>by simp at h
 |y :: l,j,j',q,q',hn,h,h',he=>by
  simp only[bYS,nodup,bYZ,cAD]at hn;have Aa:∀z∈l,f z≠f y:=fun z hz e=>by
   have:(l.map f).elem (f y)=true:=by
    have:f y∈l.map f:=List.mem_map.2 ⟨z,hz,e⟩;simpa using this
   rw[this]at hn;cases hn.1
  match j,j' with
  |0,0=>rfl
  |0,j'+1=>simp at h h';subst h;exact absurd he.symm (Aa q' (bZC h'))
  |j+1,0=>simp at h h';subst h';exact absurd he (Aa q (bZC h))
  |j+1,j'+1=>exact congrArg (·+1) (Hq hn.2 (by simpa using h) (by simpa using h') he)
theorem aOW{xs ys:List Nat}(h:Qo xs ys=true){x:Nat}(hx:x∈xs):x ∉ ys:=fun hy=>by
 have:=List.all_eq_true.1 h x hx;have h2:ys.elem x=true:=by simpa using hy
 rw[h2]at this;cases this
theorem Hc{y:A}{k:Nat}{d:D}(h:toIO hp y=some (k,d)):∃e kk ns off n,d=.io e kk ns off n/\hp k=some ⟨e,.ints kk ns⟩/\((y=.v (.one (.buf k n))/\off=0)\/y=.v (.one (.view k off n))):=by
 unfold toIO at h;split at h
 ·split at h
  ·rename_i e kk ns hb;cases h;exact⟨_,_,_,_,_,rfl,hb,.inl ⟨rfl,rfl⟩⟩
  ·cases h
 ·split at h
  ·rename_i e kk ns hb;cases h;exact⟨_,_,_,_,_,rfl,hb,.inr rfl⟩
  ·cases h
 ·cases h
theorem aAL(h:jJ E X w0 ρ al fr hp a w){y:A}{v:Value}(hr:xE ρ hp (XO X ρ hp) w y v){k:Nat}{e:TypeId}{kk:IntKind}{ns:List Int}{off n:Nat}(hd:toIO hp y=some (k,.io e kk ns off n)):bBC w (ρ k) e kk ns off n v:=by
 obtain⟨e',kk',nV,bDG,n',heq,hb,hy⟩:=Hc hd;cases heq;have hB:Gu (fun _=>False) w (ρ k) ⟨e,.ints kk ns⟩:=(h.blk k _ hb).2;rcases hy with ⟨rfl,rfl⟩ |rfl
 ·obtain⟨cap,hv,Dh,hc,_⟩:=hr;have:=hc _ kk ns hb rfl;exact⟨⟨0,cap,hv,Dh,fun _=>rfl,fun _=>rfl,by omega,this.2.1,this.2.2⟩,hB⟩
 ·obtain⟨o',cap,hv,Dh,hA,hA0,hc⟩:=hr;have:=hc _ kk ns hb rfl;exact⟨⟨o',cap,hv,Dh,hA,hA0,this⟩,hB⟩
theorem aGU{y:A}{d:D}(h:toD hp y=some d):Ft d=false:=by
 unfold toD at h;split at h
 ·cases h;rfl
 ·cases h;rfl
 ·cases h;rfl
 ·split at h
  ·cases h;rfl
  ·split at h
   ·cases h;rfl
   ·cases h
  ·cases h
 ·split at h
  ·cases h;rfl
  ·cases h
 ·cases h
theorem Ox{Y:Nat->Prop}{w:World}{g:Nat->Nat}{i:Nat}{v:Value}{d:D}(hn:Ft d=false)(h:mI Y w d v):aGT Y w g i v d:=by
 cases d with
 |io=>cases hn
 |s x=>exact h
 |rows a b c=>exact h
 |agg cs=>exact h
 |own a b c=>exact h
 |back=>exact h
theorem aFD{gid:Nat->Nat}:∀{us:List (Nat×Nat)} {q:Nat×Nat},(∀q∈us,gid q.1=q.2)->q∈us->idAt us q.1=gid q.1
 | [],q,_,h=>by cases h
 |q0 :: us,q,hg,h=>by
  simp only[idAt];cases hb:bYU q0.1 q.1 with
  |true =>
   rw[cond_true,<-bZI hb];exact(hg q0 (bZA ..)).symm
  |false =>
   rw[cond_false];rcases List.mem_cons.1 h with rfl |h
   ·rw[Nat.beq_refl]at hb;cases hb
   ·exact aFD (fun q hq=>hg q (bZE _ hq)) h
theorem aAX{us:List (Nat×Nat)}{d:D}{e:TypeId}{k:IntKind}{ns:List Int}(h:reBack us d=.own e k ns):d=.own e k ns:=by
 cases d <;> first |exact h |cases h
theorem eff_callIO(h:jJ E X w0 ρ al fr hp a w)(hd:jI E.nt o=true)(hC:kO P E)(wQ:∀j,j<8->¬al (id+j)){f:FuncId}{fo:Operand}(hf:a.eval fo=.func (.func f) #[] #[]){args:List Operand}{yC:Array TypeId}(ho:o.op=.call ⟨.value fo,args.toArray,yC⟩){p:Nat}{ps:List Nat}(Nt:E.ioF f=p :: ps)
  (he:callIO E (p :: ps) id (keepOf E o) f (args.map (evA E fr)) hp (fun a u=>some (a,u))=some (x,u)):Pb P E X w0 al fr hp a w o id x u:=by
 simp only[callIO,Fg]at he;generalize keepOf E o=keep at he;split at he
 ·cases he
 ·rename_i us ds bBY;cases aTJ:leqN (us.map (·.1)) (p :: ps)&&(nodup (us.map (·.2))&&Qo (us.map (·.2)) (pZ (p :: ps) 0 (args.map (evA E fr))))with
  |false=>rw[aTJ]at he;cases he
  |true =>
  rw[aTJ]at he;simp only[cond_true]at he;simp only[bYZ]at aTJ;obtain⟨bCC,aYO,bMA⟩:=aTJ;have Hy:us.map (·.1)=p :: ps:=aFB bCC;split at he
  ·cases he
  ·rename_i gd rs bEG;obtain⟨bBV,he⟩:=Ob he;obtain⟨Hk,js,rfl,aNP,Nx⟩:=hC.i f p ps ds gd rs Nt bEG bBV;have bHQ:us.length=(p :: ps).length:=by rw[<-Hy];simp
   have aHZ:(Hk ++ js).length-us.length=Hk.length:=by rw[bZX,aNP.len,bHQ];omega
   rw[aHZ]at he;rw[cAK,cBL]at he;cases aFP:bYW us.length (Hk ++ js).length&&bYW (Hk ++ js).length 8&&!(Hk.any shares)with
   |false=>rw[aFP]at he;cases he
   |true =>
   rw[aFP]at he;simp only[cond_true]at he;simp only[bYZ,cAD]at aFP;obtain⟨⟨_,bUY⟩,bER⟩:=aFP;have Yd:Hk.length<=8:=by have:=cAR bUY;rw[bZX]at this;omega
   split at he
   ·cases he
   ·rename_i ub bPH;obtain⟨⟨gid,aNK⟩,bTW,bCA,bLX⟩:=Bn _ _ _ _ _ _ bBY;obtain⟨bEA,bDZ⟩:=Jn _ _ _ bPH;rw[cAH]at bCA;obtain⟨U,hU⟩:∃U:qR,U=(pZ (p :: ps) 0 (args.map (evA E fr))).map fun i=>(i,none):=⟨_,rfl⟩
    have aQV:Cons U:=by rw[hU];intro q hq;obtain⟨i,_,rfl⟩:=List.mem_map.1 hq;rfl
    have bWQ:U.map (·.1)=pZ (p :: ps) 0 (args.map (evA E fr)):=by rw[hU,List.map_map];exact List.map_id _
    have Kc:∀q∈us,∃e kk ns off n,hp q.2=some ⟨e,.ints kk ns⟩/\ds[q.1]?=some (.io e kk ns off n):=by
     intro q hq;obtain⟨y,d,h1,_,h2,h3⟩:=bTW q hq;obtain⟨e,kk,ns,off,n,rfl,h4,_⟩:=Hc h2;exact⟨e,kk,ns,off,n,h4,by simpa using h3⟩
    have aYH:∀q∈us,applyUps U hp q.2=hp q.2:=fun q hq=>sQ (by rw[bWQ];exact aOW bMA (List.mem_map.2 ⟨q,hq,rfl⟩))
    have rU:∀i,i∈p :: ps->∃q∈us,q.1=i/\gid i=q.2:=by
     intro i hi;rw[<-Hy]at hi;obtain⟨q,hq,rfl⟩:=List.mem_map.1 hi;exact⟨q,hq,rfl,(aNK q hq).2⟩
    have hY:∀b,XO X ρ (applyUps U hp) b->b<w.heap.size:=by
     rintro b (hb |⟨i,bl,h1,h2⟩)
     ·have:=Old.Xm (h.x0 b hb);have:=h.below.size;omega
     ·have:=h.jK (iK aQV h1);omega
    have hG:GlobOk E.glob (XO X ρ (applyUps U hp)) w:=by
     intro g k ns hg;obtain⟨h1,h2,h3⟩:=h.Uu g k ns hg;exact⟨h1,fun ho=>h2 (ho.imp (fun h=>h) (Own.of_cons aQV)),h3.later (iJ.cons aQV)⟩
    obtain⟨g0,hg0⟩:∃g0:Nat->Nat,g0=fun i=>ρ (gid i):=⟨_,rfl⟩
    have aWN:∀b,Ei (p :: ps) g0 b->∃q∈us,ρ q.2=b:=by
     rintro b ⟨i,hi,rfl⟩;obtain⟨q,hq,_,h2⟩:=rU i hi;exact⟨q,hq,by rw[hg0];simp only;rw[h2]⟩
    have aNR:=aNP.run (XO X ρ (applyUps U hp)) w (args.map a.eval) g0 hY hG (by simp[bCA]) (fun i d v hi hv=>by
     obtain⟨y,aMW,aYD⟩:=bLX i d hi;simp only[bYX,bZV]at aMW hv;obtain⟨z,hz,rfl⟩:=aMW;obtain⟨z',bDS,rfl⟩:=hv;rw[hz]at bDS;cases bDS;have jD:=h.ev z;rcases aYD with ⟨k,h1,h2⟩ |⟨h1,h2⟩
     ·rw[bYV]at h2;obtain⟨e,kk,ns,off,n,rfl,h4,_⟩:=Hc h1;have e1:g0 i=ρ k:=by rw[hg0];simp only;rw[(aNK _ h2).2]
      refine⟨by rw[e1];exact .inr ⟨k,_,(aYH _ h2).trans h4,rfl⟩,by rw[e1];exact aAL h jD.1 h1⟩
     ·refine Ox (aGU h1) (Hd h aQV jD.1 (fun i hi=>?_) h1);rw[hU];exact List.mem_map.2 ⟨i,h2 i hi,rfl⟩) (fun i j hi hj heq=>by
     obtain⟨q,hq,rfl,h1⟩:=rU i hi;obtain⟨q',aFF,rfl,h2⟩:=rU j hj;rw[hg0]at heq;simp only[h1,h2]at heq;obtain⟨e1,k1,n1,o1,m1,rW,_⟩:=Kc q hq;obtain⟨e2,k2,n2,o2,m2,Fx,_⟩:=Kc q' aFF;have h3:=h.inj _ _ _ _ rW Fx heq;obtain⟨a1,aTL⟩:=bZT hq;obtain⟨a2,bGA⟩:=bZT aFF;have:=Hq aYO aTL bGA h3;subst this;rw[aTL]at bGA;cases bGA;rfl)
    have gR:(execOp a.eval o).run P w=.ok (.enter f (args.map a.eval).toArray) w:=by
     unfold execOp;rw[ho];simp only[resolve,hf,Deferred.ofValue,Sem.run_bind,Sem.run_pure,Result.andThen_ok,invoke];rw[<-Nx];congr 1;simp
    intro next Q hn;unfold Oper.wp;rw[gR];simp only[Oper.upon_enter];refine aNR.mono ?_;rintro e w' ⟨tF,rfl,aZK,⟨g,aHW,aNJ,aBT⟩,aFQ⟩;simp only;obtain⟨Tp,aNB⟩:∃Tp,Tp=Hk.map (reBack us):=⟨_,rfl⟩;rw[<-aNB]at he;have aWB:Tp.length=Hk.length:=by rw[aNB];simp
    have bNH:∀{i:Nat} {e:TypeId} {k:IntKind} {ns:List Int},Tp[i]?=some (.own e k ns)->Hk[i]?=some (.own e k ns):=by
     intro i e k ns hi;rw[aNB,bYX]at hi;obtain⟨d,h1,h2⟩:=Option.map_eq_some_iff.1 hi;rw[h1,aAX h2]
    obtain⟨Bd,aYW⟩:∃Bd,Bd=applyUps ub hp:=⟨_,rfl⟩;obtain⟨wZ,Un⟩:∃wZ,wZ=applyUps (takeAll keep id Tp).2 Bd:=⟨_,rfl⟩;obtain⟨ρ2,Fw⟩:∃ρ2:Nat->Nat,ρ2=fun j=>if id<=j/\j<id+8 then g (j-id)else ρ j:=⟨_,rfl⟩
    have Aa:∀i,al i->¬(id<=i/\i<id+8):=fun i hi hr=>wQ (i-id) (by omega) (by rw[show id+(i-id)=i by omega];exact hi)
    have vQ:∀j,wZ j=match (if id<=j then Tp[j-id]? else none)with
      |some (.own e k ns)=>if keep=true then some ⟨e,.ints k ns⟩else Bd j
      |_=>Bd j:=fun j=>by rw[Un];exact takeAll_ups keep Tp id _ j
    have bKM:nodup (ub.map (·.1))=true:=by rw[bEA];exact aYO
    have bFI:∀q∈us,∃(e:TypeId) (k:IntKind) (ns:List Int) (j:Nat),Bd q.2=some ⟨e,.ints k ns⟩/\us[j]?=some q/\∃(o n:Nat),js[j]?=some (D.io e k ns o n):=by
     intro q hq;obtain⟨j,hj⟩:=bZT hq;obtain⟨e,k,ns,o,n,h1,h2⟩:=bDZ j q hj;exact⟨e,k,ns,j,by rw[aYW];exact Jo bKM h2,hj,o,n,h1⟩
    have aNF:∀j,j ∉ us.map (·.2)->Bd j=hp j:=fun j hj=>by rw[aYW];exact sQ (by rw[bEA];exact hj)
    have bMO:∀j b,Bd j=some b->al j:=by
     intro j b hb
     by_cases hj:j∈us.map (·.2)
     ·obtain⟨q,hq,rfl⟩:=List.mem_map.1 hj;obtain⟨e,kk,ns,off,n,h1,_⟩:=Kc q hq;exact h.alh _ _ h1
     ·rw[aNF j hj]at hb;exact h.alh _ _ hb
    have bFA:∀j b,Bd j=some b->ρ j<w.heap.size:=by
     intro j b hb
     by_cases hj:j∈us.map (·.2)
     ·obtain⟨q,hq,rfl⟩:=List.mem_map.1 hj;obtain⟨e,kk,ns,off,n,h1,_⟩:=Kc q hq;exact h.jK h1
     ·rw[aNF j hj]at hb;exact h.jK hb
    have Ya:∀j,¬al j->Bd j=none:=by
     intro j hj;cases hq:Bd j with
     |none=>rfl
     |some b=>exact absurd (bMO j b hq) hj
    have tP:∀j b,wZ j=some b->¬al j->∃e k ns,id<=j/\Tp[j-id]?=some (.own e k ns)/\keep=true/\b=⟨e,.ints k ns⟩:=by
     intro j b hj sJ;rw[vQ]at hj;split at hj
     ·rename_i e k ns hq;split at hj
      ·rename_i hk;cases hj;split at hq
       ·exact⟨e,k,ns,‹_›,hq,hk,rfl⟩
       ·cases hq
      ·rw[Ya j sJ]at hj;cases hj
     ·rw[Ya j sJ]at hj;cases hj
    have aNA:∀i,al i->wZ i=Bd i:=by
     intro i hi;rw[vQ];split
     ·rename_i e k ns hq;split at hq
      ·exact absurd ⟨‹_›,by have:=aU hq;omega⟩ (Aa i hi)
      ·cases hq
     ·rfl
    have Ur:=h.aPO (ρ':=ρ2) (hp':=wZ) (al':=oO al id) aZK (fun b hb=>by
      obtain⟨q,hq,rfl⟩:=aWN b hb;obtain⟨e,kk,ns,off,n,h1,_⟩:=Kc q hq;exact⟨q.2,_,h1,rfl⟩) (fun _ h=>.inl h)
     (fun i hi=>by rw[Fw];simp only;rw[if_neg (Aa i hi)])
     (fun i b' hi hb=>by
      rw[aNA i hi]at hb
      by_cases hj:i∈us.map (·.2)
      ·obtain⟨q,hq,rfl⟩:=List.mem_map.1 hj;obtain⟨e,kk,ns,off,n,h1,h2⟩:=Kc q hq;obtain⟨e',k',nV,j,h3,h4,o,m,h5⟩:=bFI q hq;rw[h3]at hb;cases hb;have bHY:(p :: ps)[j]?=some q.1:=by rw[<-Hy];simp[h4]
       obtain⟨e1,k1,n1,o1,m1,e2,k2,n2,h6,h7,h8⟩:=aNP.io j q.1 bHY;rw[h2]at h6;cases h6;rw[h5]at h7;cases h7;have bFX:Wl w' (g0 q.1) (D.io e' k' nV 0 0):=aFQ j q.1 _ bHY h5;have e0:g0 q.1=ρ q.2:=by rw[hg0];simp only;rw[(aNK q hq).2]
       rw[e0]at bFX;refine .inr ⟨⟨q.1,by rw[<-Hy];exact List.mem_map.2 ⟨q,hq,rfl⟩,e0⟩,_,h1,⟨fun k ns he=>?_,fun cs he=>by cases he⟩,fun Y=>bFX⟩;cases he;exact⟨_,_,rfl,h8.symm⟩
      ·rw[aNF i hj]at hb;refine .inl ⟨fun hm=>?_,hb⟩;obtain⟨q,hq,h1⟩:=aWN _ hm;obtain⟨e,kk,ns,off,n,h2,_⟩:=Kc q hq;have:=h.inj _ _ _ _ h2 hb h1;subst this;exact hj (List.mem_map.2 ⟨q,hq,rfl⟩))
     (fun j b hj sJ=>by
      obtain⟨e,k,ns,h1,h2,h3,rfl⟩:=tP j b hj sJ;have kD:=aU h2;obtain⟨v,hv⟩:=bD (l:=tF) (i:=j-id) (by omega);obtain⟨arr,cap,_,Dn,hw,h4,aZM,h5,h6⟩:=aBT (j-id) _ v (bNH h2) hv;have e1:ρ2 j=g (j-id):=by rw[Fw];simp only;rw[if_pos ⟨h1,by omega⟩]
      exact⟨.inr ⟨h1,by omega⟩,by rw[e1];exact Dn,fun Y=>⟨arr,by rw[e1];exact hw,bZP h4 aZM,h6⟩⟩)
     (fun i j b c hi hj bMQ bMP e=>by
      obtain⟨e1,k1,Zw,h1,h2,h3,_⟩:=tP i b hi bMQ;obtain⟨e2,k2,bSX,h4,h5,h6,_⟩:=tP j c hj bMP;have l1:=aU h2;have l2:=aU h5;rw[Fw]at e;simp only at e;rw[if_pos ⟨h1,by omega⟩,if_pos ⟨h4,by omega⟩]at e;have:=aNJ _ _ _ _ (bNH h2) (bNH h5) rfl rfl e;omega)
    obtain⟨aBL,bLL⟩:=Ur;have bKS:∀{i:Nat} {d:D},Hk[i]?=some d->shares d=false:=by
     intro i d hi;cases hs:shares d with
     |false=>rfl
     |true =>
      have:Hk.any shares=true:=List.any_eq_true.2 ⟨d,bZC hi,hs⟩;rw[this]at bER;cases bER
    have Ul:∀(i:Nat) (d:D) (v:Value),Hk[i]?=some d->tF[i]?=some v->Gt ρ2 wZ (XO X ρ2 wZ) w' (takeIn keep (id+i) (reBack us d)).1 v/\∀j∈refsV (takeIn keep (id+i) (reBack us d)).1,oO al id j:=by
     intro i d v hi hv;have bLS:Tp[i]?=some (reBack us d):=by rw[aNB,bYX,hi];rfl
     have hg:=aBT i d v hi hv;have bVJ:=aU hi;have aTA:=bKS hi;cases d with
     |own e k ns =>
      obtain⟨arr,cap,rfl,Dn,hw,h4,aZM,h5,h6⟩:=hg;have bLE:¬X (g i):=fun hx=>by have:=Old.Xm (h.x0 _ hx);have:=h.below.size;omega
      cases keep with
      |true =>
       have e1:ρ2 (id+i)=g i:=by rw[Fw];simp only;rw[if_pos ⟨by omega,by omega⟩];congr 1;omega
       refine⟨⟨cap,by rw[e1],h4,fun blk k1 Zw hb hk=>?_,fun blk cs hb hk=>?_⟩,fun j hj=>?_⟩
       rotate_left
       ·rw[vQ,aW,show id+i-id=i by omega,bLS]at hb;simp only[reBack,if_true]at hb;cases hb;cases hk
       rotate_left
       ·rw[vQ,aW,show id+i-id=i by omega,bLS]at hb;simp only[reBack,if_true]at hb;cases hb;cases hk;exact⟨rfl,h5,by rw[e1];unfold lV;rw[hw];exact aZM⟩
       ·simp only[reBack,takeIn,cond_true,refsV,refsL,bZL]at hj;subst hj;exact .inr ⟨by omega,by omega⟩
      |false =>
       refine⟨⟨_,cap,rfl,h4,fun j n hj=>⟨g i,0,rfl,(Array.getElem?_eq_some_iff.1 hw).1,?_,?_⟩⟩,fun j hj=>by simp[reBack,takeIn,refsV,refsL]at hj⟩
       ·rintro (hx |⟨j',bl,h7,h8⟩)
        ·exact bLE hx
        ·by_cases Qh:al j'
         ·rw[aNA j' Qh]at h7;have:=bFA _ _ h7;have e2:ρ2 j'=ρ j':=by rw[Fw];simp only;rw[if_neg (Aa j' Qh)]
          omega
         ·obtain⟨_,_,_,_,_,hk,_⟩:=tP j' bl h7 Qh;cases hk
       ·rw[bYV,cell_of_row w' (g i) j arr e (0,0) hw];exact h6 j n hj
     |s x=>exact⟨mI.any (d:=.s x) aTA rfl hg,fun j hj=>by simp[reBack,takeIn,refsV,refsL]at hj⟩
     |rows sz n f=>cases aTA
     |agg cs=>exact⟨mI.any (d:=.agg cs) aTA rfl hg,fun j hj=>by simp[reBack,takeIn,refsV]at hj⟩
     |io=>cases aTA
     |back p0 off n =>
      obtain⟨j,e,k,ns,h1,h2,h3⟩:=hg;obtain⟨q,hq,rfl,h4⟩:=rU p0 (bZC h1);have bLQ:idAt us q.1=q.2:=(aFD (fun q hq=>(aNK q hq).2) hq).trans h4;obtain⟨e0,kk,ns0,off0,n0,hb0,_⟩:=Kc q hq;have aZI:=h.alh _ _ hb0;have e1:ρ2 q.2=g0 q.1:=by rw[Fw,hg0];simp only;rw[if_neg (Aa _ aZI),h4]
      obtain⟨o',cap,h5,h6,h7,h8,h9,bRB,bXO⟩:=h3;simp only[reBack,bLQ,takeIn];refine⟨⟨o',cap,by rw[e1];exact h5,h6,h7,h8,fun blk k1 Zw hb hk=>?_⟩,fun j hj=>?_⟩
      ·rw[aNA _ aZI]at hb;obtain⟨e',k',nV,j',bXN,bXM,o,m,bXL⟩:=bFI q hq;rw[bXN]at hb;cases hb;cases hk;have bHY:(p :: ps)[j']?=some q.1:=by rw[<-Hy];simp[bXM]
       have bVE:j=j':=by
        have f1:((us.map (·.1)).map gid)[j]?=some q.2:=by rw[Hy,bYX,h1];simp[h4]
        have f2:((us.map (·.1)).map gid)[j']?=some q.2:=by rw[Hy,bYX,bHY];simp[h4]
        have f3:(us.map (·.1)).map gid=us.map (·.2):=by
         rw[List.map_map];exact cAE fun q hq=>(aNK q hq).2
        have bET:nodup ((us.map (·.2)).map fun x=>x)=true:=by rw[List.map_id'];exact aYO
        rw[f3]at f1 f2;exact Hq bET f1 f2 rfl
       subst bVE;rw[bXL]at h2;cases h2;exact⟨h9,bRB,by rw[e1];exact bXO⟩
      ·simp only[refsV,refsL,bZL]at hj;subst hj;exact .inl aZI
    have Jj:(takeAll keep id Tp).1.length=tF.length:=by rw[Aj,aWB];exact aHW
    have hval:∀(i:Nat) (y:V) (v:Value),(takeAll keep id Tp).1[i]?=some y->tF[i]?=some v->Gt ρ2 wZ (XO X ρ2 wZ) w' y v/\∀j∈refsV y,oO al id j:=by
     intro i y v hy hv;obtain⟨d,Af⟩:=bD (l:=Hk) (i:=i) (by have:=aU hv;omega);rw[Ak keep Tp id i (reBack us d) (by rw[aNB,bYX,Af];rfl)]at hy;cases hy;exact Ul i d v Af hv
    have qE:∀(y:A),xE ρ2 wZ (XO X ρ2 wZ) w' y (resV tF)->(∀j∈refs y,oO al id j)->some (y,ub ++ (takeAll keep id Tp).2)=some (x,u)->next (a.put o.dst (resV tF)) w':=by
     intro y hy bKE heq;obtain⟨e1,e2⟩:=Prod.mk.inj (Option.some.inj heq);refine hn ρ2 (resV tF) w' ?_;rw[<-e1,<-e2,lF,<-aYW,<-Un];exact aBL.pure hd hy bKE
    match bDX:tF,Jj,hval,qE with
    | [v],Jj,hval,qE =>
     match ht:(takeAll keep id Tp).1,Jj with
     | [y],_ =>
      rw[ht]at he hval;obtain⟨h1,h2⟩:=hval 0 y v rfl rfl;exact qE (.v y) h1 h2 he
    | [],Jj,hval,qE =>
     match ht:(takeAll keep id Tp).1,Jj with
     | [],_ =>
      rw[ht]at he;exact qE (.Lv []) ⟨#[],rfl,rfl,fun i y v hy=>by simp at hy⟩ (by simp[refs]) he
    |v1 :: v2 :: vr,Jj,hval,qE =>
     match ht:(takeAll keep id Tp).1,Jj with
     |y1 :: y2 :: yr,Jj =>
      rw[ht]at he hval;refine qE (.Lv (y1 :: y2 :: yr)) ⟨(v1 :: v2 :: vr).toArray,rfl,by simpa using Jj,fun i y v hy hv=>(hval i y v hy (by simpa using hv)).1⟩ ?_ he;intro j hj;obtain⟨y,hy,hj⟩:=List.mem_flatMap.1 hj;obtain⟨i,hi⟩:=bZT hy;obtain⟨v,hv⟩:=bD (l:=v1 :: v2 :: vr) (i:=i) (by have:=aU hi;omega);exact(hval i y v hi hv).2 j hj
theorem Sd(h:jJ E X w0 ρ al fr hp a w)(hd:jI E.nt o=true)(hC:kO P E)(wQ:∀j,j<8->¬al (id+j)){f:FuncId}{keep:Bool}{as:List A}{vals:List Value}(sJ:as.length=vals.length)
  (bWJ:∀(i:Nat) (y:A) (v:Value),as[i]?=some y->vals[i]?=some v->xE ρ hp (XO X ρ hp) w y v) (gR:pE P f->(execOp a.eval o).run P w=.ok (.enter f vals.toArray) w)
  (bLO:E.ioF f=[]) (he:callK E id keep f as hp (fun a u=>some (a,u))=some (x,u)):Pb P E X w0 al fr hp a w o id x u:=by
 simp only[callK,Fg]at he;split at he
 ·cases he
 ·rename_i ds bBY;split at he
  ·cases he
  ·rename_i gd rs bEG;obtain⟨bBV,he⟩:=Ob he;cases Yd:bYW rs.length 8 with
   |false=>rw[Yd]at he;cases he
   |true =>
   rw[Yd]at he;simp only[cond_true]at he;have Yd:rs.length<=8:=cAR Yd;obtain⟨aNP,Nx⟩:=hC.c f ds gd rs bLO bEG bBV;obtain⟨U,hU⟩:∃U,U=aCO as:=⟨_,rfl⟩;have aQV:Cons U:=by rw[hU];exact Zh _
   have hY:∀b,XO X ρ (applyUps U hp) b->b<w.heap.size:=by
    rintro b (hb |⟨i,bl,h1,h2⟩)
    ·have:=Old.Xm (h.x0 b hb);have:=h.below.size;omega
    ·have:=h.jK (iK aQV h1);omega
   have hG:GlobOk E.glob (XO X ρ (applyUps U hp)) w:=by
    intro g k ns hg;obtain⟨h1,h2,h3⟩:=h.Uu g k ns hg;exact⟨h1,fun ho=>h2 (ho.imp (fun h=>h) (Own.of_cons aQV)),h3.later (iJ.cons aQV)⟩
   have bCA:ds.length=vals.length:=by have:=Aw bBY;omega
   have aNR:=aNP (XO X ρ (applyUps U hp)) w vals hY hG bCA (fun i d v hi hv=>by
    obtain⟨y,aMW,aYD⟩:=Xu bBY i d hi;refine Hd h aQV (bWJ i y v aMW hv) (fun i hi=>?_) aYD;rw[hU];exact aBF (bZC aMW) hi)
   have gR:=gR Nx;intro next Q hn;unfold Oper.wp;rw[gR];simp only[Oper.upon_enter];refine aNR.mono ?_;rintro e w' ⟨tF,rfl,aZK,g,aHW,aNJ,aBT⟩;simp only;obtain⟨U',bQN,bWP⟩:∃U',Cons U'/\(bif rs.any shares then(List.flatMap refs as).map fun i=>((i,none):Nat×Option kQ)else [])=U'/\(∀i,i∈U'.map (·.1)->i∈U.map (·.1)):=by
    cases bKT:rs.any shares with
    |true=>exact⟨U,aQV,by rw[hU];rfl,fun _ h=>h⟩
    |false=>exact⟨[],(fun p hp=>by cases hp),rfl,fun i hi=>by cases hi⟩
   obtain⟨aZJ,hUsub⟩:=bWP;rw[aZJ]at he;have h0:=h.cons bQN;obtain⟨wZ,Un⟩:∃wZ,wZ=applyUps (takeAll keep id rs).2 (applyUps U' hp):=⟨_,rfl⟩;obtain⟨ρ2,Fw⟩:∃ρ2:Nat->Nat,ρ2=fun j=>if id<=j/\j<id+8 then g (j-id)else ρ j:=⟨_,rfl⟩
   have Aa:∀i,al i->¬(id<=i/\i<id+8):=fun i hi hr=>wQ (i-id) (by omega) (by rw[show id+(i-id)=i by omega];exact hi)
   have vQ:∀j,wZ j=match (if id<=j then rs[j-id]? else none)with
     |some (.own e k ns)=>if keep=true then some ⟨e,.ints k ns⟩else applyUps U' hp j
     |_=>applyUps U' hp j:=fun j=>by rw[Un];exact takeAll_ups keep rs id _ j
   have Ya:∀j,¬al j->applyUps U' hp j=none:=by
    intro j hj;cases hq:applyUps U' hp j with
    |none=>rfl
    |some b=>exact absurd (h0.alh j b hq) hj
   have tP:∀j b,wZ j=some b->¬al j->∃e k ns,id<=j/\rs[j-id]?=some (.own e k ns)/\keep=true/\b=⟨e,.ints k ns⟩:=by
    intro j b hj sJ;rw[vQ]at hj;split at hj
    ·rename_i e k ns hq;split at hj
     ·rename_i hk;cases hj;split at hq
      ·exact⟨e,k,ns,‹_›,hq,hk,rfl⟩
      ·cases hq
     ·rw[Ya j sJ]at hj;cases hj
    ·rw[Ya j sJ]at hj;cases hj
   have Ur:=h0.called (ρ':=ρ2) (hp':=wZ) (al':=oO al id) aZK (fun _ h=>.inl h)
    (fun i hi=>by
     refine⟨by rw[Fw];simp only;rw[if_neg (Aa i hi)],?_⟩;rw[vQ];split
     ·rename_i e k ns hq;split at hq
      ·exact absurd ⟨‹_›,by have:=aU hq;omega⟩ (Aa i hi)
      ·cases hq
     ·rfl)
    (fun j b hj sJ=>by
     obtain⟨e,k,ns,h1,h2,h3,rfl⟩:=tP j b hj sJ;have kD:=aU h2;obtain⟨v,hv⟩:=bD (l:=tF) (i:=j-id) (by omega);obtain⟨arr,cap,_,Dn,hw,h4,aZM,h5,h6⟩:=aBT (j-id) _ v h2 hv;have e1:ρ2 j=g (j-id):=by rw[Fw];simp only;rw[if_pos ⟨h1,by omega⟩]
     exact⟨.inr ⟨h1,by omega⟩,by rw[e1];exact Dn,fun Y=>⟨arr,by rw[e1];exact hw,bZP h4 aZM,h6⟩⟩)
    (fun i j b c hi hj bMQ bMP e=>by
     obtain⟨e1,k1,Zw,h1,h2,h3,_⟩:=tP i b hi bMQ;obtain⟨e2,k2,bSX,h4,h5,h6,_⟩:=tP j c hj bMP;have l1:=aU h2;have l2:=aU h5;rw[Fw]at e;simp only at e;rw[if_pos ⟨h1,by omega⟩,if_pos ⟨h4,by omega⟩]at e;have:=aNJ _ _ _ _ h2 h5 rfl rfl e;omega)
   obtain⟨aBL,bLL⟩:=Ur;have aZC:∀{i:Nat} (d:D) (v:Value),rs[i]?=some d->kX d=false->mI (fun b=>XO X ρ (applyUps U hp) b\/∃(j:Nat) (d':D),rs[j]?=some d'/\kX d'=true/\g j=b) w' d v->mI (XO X ρ2 wZ) w' d v:=by
    intro i d v hi ho hr;cases bKT:shares d with
    |false=>exact hr.any bKT ho
    |true =>
     have Fy:rs.any shares=true:=List.any_eq_true.2 ⟨d,bZC hi,bKT⟩;have bWR:U'=U:=by
      rw[Fy]at aZJ;rw[<-aZJ,hU];rfl
     refine hr.later ⟨bYT _,fun b _ hx=>⟨rfl,fun hb=>hx ?_⟩⟩;rcases hb with hb |⟨j,bl,h7,h8⟩
     ·exact .inl (.inl hb)
     ·by_cases Qh:al j
      ·have h9:applyUps U' hp j=some bl:=by
        rw[<-h7,vQ];split
        ·rename_i e k ns hq;split at hq
         ·exact absurd ⟨‹_›,by have:=aU hq;omega⟩ (Aa j Qh)
         ·cases hq
        ·rfl
       have e2:ρ2 j=ρ j:=by rw[Fw];simp only;rw[if_neg (Aa j Qh)]
       exact .inl (.inr ⟨j,bl,by rw[<-bWR];exact h9,by rw[<-e2];exact h8⟩)
      ·obtain⟨e,k,ns,h1,h2,h3,rfl⟩:=tP j bl h7 Qh;have kD:=aU h2;refine .inr ⟨j-id,_,h2,rfl,?_⟩;rw[Fw]at h8;simp only at h8;rw[if_pos ⟨h1,by omega⟩]at h8;exact h8
   have Ul:∀(i:Nat) (d:D) (v:Value),rs[i]?=some d->tF[i]?=some v->Gt ρ2 wZ (XO X ρ2 wZ) w' (takeIn keep (id+i) d).1 v/\∀j∈refsV (takeIn keep (id+i) d).1,oO al id j:=by
    intro i d v hi hv;have hg:=aBT i d v hi hv;have bVJ:=aU hi;cases d with
    |own e k ns =>
     obtain⟨arr,cap,rfl,Dn,hw,h4,aZM,h5,h6⟩:=hg;have bLE:¬X (g i):=fun hx=>by have:=Old.Xm (h.x0 _ hx);have:=h.below.size;omega
     cases keep with
     |true =>
      have e1:ρ2 (id+i)=g i:=by rw[Fw];simp only;rw[if_pos ⟨by omega,by omega⟩];congr 1;omega
      refine⟨⟨cap,by rw[e1],h4,fun blk k1 Zw hb hk=>?_,fun blk cs hb hk=>?_⟩,fun j hj=>?_⟩
      rotate_left
      ·rw[vQ,aW,show id+i-id=i by omega,hi]at hb;simp only[if_true]at hb;cases hb;cases hk
      rotate_left
      ·rw[vQ,aW,show id+i-id=i by omega,hi]at hb;simp only[if_true]at hb;cases hb;cases hk;exact⟨rfl,h5,by rw[e1];unfold lV;rw[hw];exact aZM⟩
      ·simp only[takeIn,cond_true,refsV,refsL,bZL]at hj;subst hj;exact .inr ⟨by omega,by omega⟩
     |false =>
      refine⟨⟨_,cap,rfl,h4,fun j n hj=>⟨g i,0,rfl,(Array.getElem?_eq_some_iff.1 hw).1,?_,?_⟩⟩,fun j hj=>by simp[takeIn,refsV,refsL]at hj⟩
      ·rintro (hx |⟨j',bl,h7,h8⟩)
       ·exact bLE hx
       ·by_cases Qh:al j'
        ·have:wZ j'=applyUps U' hp j':=by
          rw[vQ];split
          ·simp
          ·rfl
         rw[this]at h7;have:=h0.jK h7;have e2:ρ2 j'=ρ j':=by rw[Fw];simp only;rw[if_neg (Aa j' Qh)]
         omega
        ·obtain⟨_,_,_,_,_,hk,_⟩:=tP j' bl h7 Qh;cases hk
      ·rw[bYV,cell_of_row w' (g i) j arr e (0,0) hw];exact h6 j n hj
    |s x=>exact⟨aZC _ v hi rfl hg,fun j hj=>by simp[takeIn,refsV,refsL]at hj⟩
    |rows sz n f=>exact⟨aZC _ v hi rfl hg,fun j hj=>by simp[takeIn,refsV,refsL]at hj⟩
    |agg cs=>exact⟨aZC _ v hi rfl hg,fun j hj=>by simp[takeIn,refsV]at hj⟩
    |io=>exact hg.elim
    |back=>exact hg.elim
   have Jj:(takeAll keep id rs).1.length=tF.length:=by rw[Aj];exact aHW
   have hval:∀(i:Nat) (y:V) (v:Value),(takeAll keep id rs).1[i]?=some y->tF[i]?=some v->Gt ρ2 wZ (XO X ρ2 wZ) w' y v/\∀j∈refsV y,oO al id j:=by
    intro i y v hy hv;obtain⟨d,Af⟩:=bD (l:=rs) (i:=i) (by have:=aU hv;omega);rw[Ak keep rs id i d Af]at hy;cases hy;exact Ul i d v Af hv
   have qE:∀(y:A),xE ρ2 wZ (XO X ρ2 wZ) w' y (resV tF)->(∀j∈refs y,oO al id j)->some (y,U' ++ (takeAll keep id rs).2)=some (x,u)->next (a.put o.dst (resV tF)) w':=by
    intro y hy bKE heq;obtain⟨e1,e2⟩:=Prod.mk.inj (Option.some.inj heq);refine hn ρ2 (resV tF) w' ?_;rw[<-e1,<-e2,lF,<-Un];exact aBL.pure hd hy bKE
   match bDX:tF,Jj,hval,qE with
   | [v],Jj,hval,qE =>
    match ht:(takeAll keep id rs).1,Jj with
    | [y],_ =>
     rw[ht]at he hval;obtain⟨h1,h2⟩:=hval 0 y v rfl rfl;exact qE (.v y) h1 h2 he
   | [],Jj,hval,qE =>
    match ht:(takeAll keep id rs).1,Jj with
    | [],_ =>
     rw[ht]at he;exact qE (.Lv []) ⟨#[],rfl,rfl,fun i y v hy=>by simp at hy⟩ (by simp[refs]) he
   |v1 :: v2 :: vr,Jj,hval,qE =>
    match ht:(takeAll keep id rs).1,Jj with
    |y1 :: y2 :: yr,Jj =>
     rw[ht]at he hval;refine qE (.Lv (y1 :: y2 :: yr)) ⟨(v1 :: v2 :: vr).toArray,rfl,by simpa using Jj,fun i y v hy hv=>(hval i y v hy (by simpa using hv)).1⟩ ?_ he;intro j hj;obtain⟨y,hy,hj⟩:=List.mem_flatMap.1 hj;obtain⟨i,hi⟩:=bZT hy;obtain⟨v,hv⟩:=bD (l:=v1 :: v2 :: vr) (i:=i) (by have:=aU hi;omega);exact(hval i y v hi hv).2 j hj
theorem aOS(h:jJ E X w0 ρ al fr hp a w)(hd:jI E.nt o=true)(hC:kO P E)(wQ:∀j,j<8->¬al (id+j)){fo:Operand}{args:Array Operand}{yC:Array TypeId}(ho:o.op=.call ⟨.value fo,args,yC⟩)(he:qV E id o (evA E fr) hp=some (x,u)):Pb P E X w0 al fr hp a w o id x u:=by
 obtain⟨args⟩:=args;have hargs:∀(i:Nat) (y:A) (v:Value),(args.map (evA E fr))[i]?=some y->(args.map a.eval)[i]?=some v->xE ρ hp (XO X ρ hp) w y v:=by
  intro i y v hy hv;simp only[bYX,bZV]at hy hv;obtain⟨z,hz,rfl⟩:=hy;obtain⟨z',bDS,rfl⟩:=hv;rw[hz]at bDS;cases bDS;exact(h.ev z).1
 unfold qV effK at he;rw[ho]at he;simp only at he;split at he
 ·rename_i f aTE;have hf:a.eval fo=.func (.func f) #[] #[]:=by
   have hz:=(h.ev fo).1;unfold funOf at aTE;split at aTE
   ·rename_i f' jD;cases aTE;rw[jD]at hz;exact hz.1
   ·cases aTE
  split at he
  ·rename_i gx vs bFY;obtain⟨bVO,he⟩:=Ob he;exact(aTZ h hd hC hf ho bFY bVO he).step
  split at he
  case h_2=>exact eff_callIO h hd hC wQ hf ho ‹_› he
  refine Sd h hd hC wQ (by simp) hargs (fun Nx=>?_) ‹_› he;unfold execOp;rw[ho];simp only[resolve,hf,Deferred.ofValue,Sem.run_bind,Sem.run_pure,Result.andThen_ok,invoke];rw[<-Nx];congr 1;simp
 ·split at he
  case h_2=>cases he
  rename_i f xs aTE;split at he
  case h_2=>cases he
  obtain⟨ps,hf,Rt,Hy⟩:∃ps:List Value,a.eval fo=.func (.func f) #[] ps.toArray/\Sr (XO X ρ hp) w xs ps:=by
   have hz:=(h.ev fo).1;unfold cloOf at aTE;split at aTE
   ·rename_i f' bRX jD;cases aTE;rw[jD]at hz;exact hz
   ·cases aTE
  refine Sd h hd hC wQ (vals:=args.map a.eval ++ ps) (by simp[Rt]) (fun i y v hy hv=>?_) (fun Nx=>?_) ‹_› he
  ·by_cases hi:i<args.length
   ·rw[bZZ (by simpa using hi)]at hy hv;exact hargs i y v hy hv
   ·rw[cAA (by simpa using cBN hi)]at hy hv;simp only[cAH,bYX,bZV]at hy hv;obtain⟨z,hz,rfl⟩:=hy;exact Hy _ z v hz hv
  ·unfold execOp;rw[ho];simp only[resolve,hf,Deferred.ofValue,Sem.run_bind,Sem.run_pure,Result.andThen_ok,invoke];rw[<-Nx];congr 1;simp
theorem aAM(h:jJ E X w0 ρ al fr hp a w)(hd:jI E.nt o=true)(hT:oS P E.T)(hC:kO P E)(wQ:∀j,j<8->¬al (id+j))(he:qV E id o (evA E fr) hp=some (x,u)):Pb P E X w0 al fr hp a w o id x u:=by
 have Ct:=he;unfold qV effK at he;split at he
 ·exact(Yt h hd (.inl ‹_›) Ct).step
 ·exact(Yt h hd (.inr ‹_›) Ct).step
 ·exact(aOP h hd ‹_› Ct).step
 ·exact(aIM h hd hT wQ ‹_› Ct).step
 ·exact(aUA h hd wQ ‹_› Ct).step
 ·exact(aIK h hd hT ‹_› Ct).step
 ·exact(Oh h hd hT wQ ‹_› Ct).step
 ·exact(aOQ h hd hT ‹_› Ct).step
 ·exact(Va h hd ‹_› Ct).step
 ·exact(aIG h hd hT ‹_› Ct).step
 ·exact(aIL h hd hT ‹_› Ct).step
 ·exact(aOO h hd ‹_› Ct).step
 ·exact(Yv h hd hT ‹_› Ct).step
 ·exact(Qk h hd hT wQ ‹_› Ct).step
 ·exact(aIH h hd hT ‹_› Ct).step
 ·exact(Qm h hd hT ‹_› Ct).step
 ·exact(aIJ h hd hT ‹_› Ct).step
 ·exact(Ql h hd hT ‹_› Ct).step
 ·exact(aII h hd hT ‹_› Ct).step
 ·exact(Yu h hd ‹_› Ct).step
 ·exact aOS h hd hC wQ ‹_› Ct
 ·rename_i b args yC ho;have hb:=he;unfold builtinK at hb;split at hb
  ·exact(aTY h hd hT ho Ct).step
  ·exact(Og h hd (.inl rfl) ho Ct).step
  ·exact(Og h hd (.inr rfl) ho Ct).step
  ·exact(aCC h hd hT wQ ho Ct).step
  ·exact(aOR h hd hT ho Ct).step
  ·cases hb
 ·cases he
end
end AI
namespace AI
open Go Go.RowKit
section
variable {hp hp':Nat->Option kQ}
theorem Bl{x:A}(h:∀i∈refs x,hp i=hp' i):cellsOf hp x=cellsOf hp' x:=by
 unfold cellsOf;split
 ·rfl
 ·rfl
 ·rw[h _ (by simp[refs,refsV,refsL])]
 ·rw[h _ (by simp[refs,refsV,refsL])]
 ·rfl
theorem aDN{x:A}(h:∀i∈refs x,hp i=hp' i):toD hp x=toD hp' x:=by
 unfold toD;split
 ·rfl
 ·rfl
 ·rfl
 ·rw[h _ (by simp[refs,refsV,refsL])]
 ·rw[h _ (by simp[refs,refsV,refsL])]
 ·rfl
theorem Nj{k:IntKind}{x:A}(h:∀i∈refs x,hp i=hp' i):intsOf hp k x=intsOf hp' k x:=by
 unfold intsOf;split
 ·rfl
 ·rfl
 ·rw[h _ (by simp[refs,refsV,refsL])]
 ·rw[h _ (by simp[refs,refsV,refsL])]
 ·rfl
theorem Fv{R:Type}{t:TI}{qP:Nat}{x:A}{n:Int}{K:A->Option R}(h:∀i∈refs x,hp i=hp' i):idxK hp t qP x n K=idxK hp' t qP x n K:=by
 unfold idxK;split
 ·rfl
 ·rw[h _ (by simp[refs,refsV,refsL])]
 ·rw[h _ (by simp[refs,refsV,refsL])]
 ·rfl
 ·rfl
 ·rfl
 ·rfl
theorem aMU{R:Type}{sh:Bool}{t:TI}{qP:Nat}{x:A}{n:Int}{K:A->Option R}(h:∀i∈refs x,hp i=hp' i):idxS sh hp t qP x n K=idxS sh hp' t qP x n K:=by
 unfold idxS;split
 ·rw[h _ (by simp[refs,refsV,refsL])];simp only[Fv h]
 ·exact Fv h
theorem Ue{xs:List A}(h:∀x∈xs,∀i∈refs x,hp i=hp' i):xs.mapM (toD hp)=xs.mapM (toD hp'):=by
 induction xs with
 |nil=>rfl
 |cons x xs ih=>rw[cAC,cAC,aDN (h x (by simp)),ih (fun y hy=>h y (by simp[hy]))]
theorem Ib{R:Type}{place:Nat->Option (Nat×Nat)}{ev Pw:Operand->A}{parts:List (Nat×Operand)}{cs:List S}{u:qR}{K:List S->qR->Option R}
  (he:∀p∈parts,ev p.2=Pw p.2) (h:∀p∈parts,∀i∈refs (ev p.2),hp i=hp' i):fillK hp place ev parts cs u K=fillK hp' place Pw parts cs u K:=by
 induction parts generalizing cs u with
 |nil=>rfl
 |cons p rest ih =>
  obtain⟨i,y⟩:=p;have e1:ev y=Pw y:=he (i,y) (by simp);have e2:cellsOf hp (ev y)=cellsOf hp' (Pw y):=by rw[Bl (h (i,y) (by simp)),e1]
  simp only[fillK,e2];split
  ·split
   ·exact ih (fun p hp=>he p (by simp[hp])) (fun p hp=>h p (by simp[hp]))
   ·rfl
  ·rfl
end
theorem Oq{hp hp':Nat->Option kQ}:∀{l:List A},(∀x∈l,∀i∈refs x,hp i=hp' i)->capsOf hp l=capsOf hp' l
 | [],_=>rfl
 |y :: l,h=>by
  have ih:=Oq (l:=l) fun x hx=>h x (bZE _ hx)
  cases y with
  |v x=>cases x with
   |one lx=>cases lx with
    |ptr i o=>cases o with
     |zero =>
      have e:=h (.v (.one (.ptr i 0))) (bZA ..) i (List.mem_singleton.2 rfl);simp only[capsOf,e,ih]
     |succ o=>rfl
    |_=>rfl
   |agg=>rfl
  |Lv=>rfl
  |any=>rfl
theorem Sl{R:Type}{E:Env}{id:Nat}{keep:Bool}{f:FuncId}{args:List A}{hp hp':Nat->Option kQ}{K:A->qR->Option R}(h:∀x∈args,∀i∈refs x,hp i=hp' i) :
  callK E id keep f args hp K=callK E id keep f args hp' K:=by
 unfold callK;rw[Ue h]
theorem aKU{hp hp':Nat->Option kQ}{x:A}(h:∀i∈refs x,hp i=hp' i):toIO hp x=toIO hp' x:=by
 unfold toIO;split
 ·rw[h _ (by simp[refs,refsV,refsL])]
 ·rw[h _ (by simp[refs,refsV,refsL])]
 ·rfl
theorem Ow{hp hp':Nat->Option kQ}(ps:List Nat):∀{args:List A} (i:Nat),(∀x∈args,∀i∈refs x,hp i=hp' i)->argsIO ps hp i args=argsIO ps hp' i args
 | [],_,_=>rfl
 |x :: args,i,h=>by
  unfold argsIO;rw[aKU (h x (by simp)),aDN (h x (by simp)),Ow ps (i+1) (fun y hy=>h y (by simp[hy]))]
theorem aCJ{R:Type}{E:Env}{ps:List Nat}{id:Nat}{keep:Bool}{f:FuncId}{args:List A}{hp hp':Nat->Option kQ}{K:A->qR->Option R}(h:∀x∈args,∀i∈refs x,hp i=hp' i) :
  callIO E ps id keep f args hp K=callIO E ps id keep f args hp' K:=by
 unfold callIO;rw[Ow ps 0 h]
theorem Vp{R:Type}{n0 id:Nat}{e:TypeId}{te:TI}{s x:A}{hp hp':Nat->Option kQ}{K:A->qR->Option R}(hs:∀i∈refs s,hp i=hp' i)(hx:∀i∈refs x,hp i=hp' i) :
  appCells n0 id e te s x hp K=appCells n0 id e te s x hp' K:=by
 unfold appCells;split
 ·rw[hx _ (by simp[refs,refsV,refsL])];split
  ·split
   ·split
    ·rw[hs _ (by simp[refs,refsV,refsL])]
    ·rfl
    ·rfl
   ·rfl
  ·rfl
 ·rfl
theorem Vi{R:Type}{E:Env}{id:Nat}{b:Builtin}{args:List A}{yC:List TypeId}{hp hp':Nat->Option kQ}{K:A->qR->Option R}(h:∀x∈args,∀i∈refs x,hp i=hp' i) :
  builtinK E id b args yC hp K=builtinK E id b args yC hp' K:=by
 unfold builtinK;split
 ·rfl
 ·rfl
 ·rfl
 ·rename_i s x t t';split
  ·split
   ·split
    ·split
     ·rw[Nj (h x (by simp))];split
      ·rename_i i n ms hq;rw[h (.v (.one (.buf i n))) (by simp) i (by simp[refs,refsV,refsL])]
      ·rfl
      ·rfl
     ·rfl
    ·exact Vp (h s (by simp)) (h x (by simp))
    ·rfl
   ·rfl
  ·rfl
 ·rename_i d s t t';split
  ·split
   ·rw[Nj (h s (by simp))];split
    ·rename_i i n ms hq;rw[h (.v (.one (.buf i n))) (by simp) i (by simp[refs,refsV,refsL])]
    ·rename_i i off n ms hq;rw[h (.v (.one (.view i off n))) (by simp) i (by simp[refs,refsV,refsL])]
    ·rfl
   ·rfl
  ·rfl
 ·rfl
theorem wY{α β:Type}{f g:α->β}{o:Option α}(h:∀x,o=some x->f x=g x):o.map f=o.map g:=by
 cases o with
 |none=>rfl
 |some x=>simp[h x rfl]
theorem aOT{R:Type}{E:Env}{id:Nat}{o:Oper}{ev Pw:Operand->A}{hp hp':Nat->Option kQ}{K:A->qR->Option R}(he:∀x,x∈o.op.operands.toList->ev x=Pw x)(h:∀x,x∈o.op.operands.toList->∀i∈refs (ev x),hp i=hp' i) :
  effK E id o ev hp K=effK E id o Pw hp' K:=by
 unfold effK;split <;> rename_i ho <;> (try rw[ho]at he h)
 ·rw[he _ (by simp[Op.operands])]
 ·rw[he _ (by simp[Op.operands])]
 ·rw[he _ (by simp[Op.operands]),he _ (by simp[Op.operands]),he _ (by simp[Op.operands])]
 ·rw[Bl (h _ (by simp[Op.operands])),he _ (by simp[Op.operands])]
 ·have e1:∀p∈(‹Array (Nat×Operand)›).toList,p.2∈(‹Array (Nat×Operand)›).toList.map (·.2):=fun p hp=>List.mem_map.2 ⟨p,hp,rfl⟩
  split
  ·exact Ib (fun p hp=>he _ (by simpa [Op.operands] using e1 p hp)) (fun p hp=>h _ (by simpa [Op.operands] using e1 p hp))
  ·exact Ib (fun p hp=>he _ (by simpa [Op.operands] using e1 p hp)) (fun p hp=>h _ (by simpa [Op.operands] using e1 p hp))
  ·rfl
 ·have e1:∀p∈(‹Array (Nat×Operand)›).toList,p.2∈(‹Array (Nat×Operand)›).toList.map (·.2):=fun p hp=>List.mem_map.2 ⟨p,hp,rfl⟩
  split
  ·split
   ·split
    ·exact Ib (fun p hp=>he _ (by simpa [Op.operands] using e1 p hp)) (fun p hp=>h _ (by simpa [Op.operands] using e1 p hp))
    ·rfl
   ·rfl
  ·rfl
 ·rename_i t y;have e1:ev y=Pw y:=he _ (by simp[Op.operands]);have e2:=h y (by simp[Op.operands]);split
  ·rw[<-e1];split
   ·rename_i i off jD;rw[e2 i (by rw[jD];simp[refs,refsV,refsL])]
   ·rename_i i j jD;rw[e2 i (by rw[jD];simp[refs,refsV,refsL])]
   ·rfl
   ·rfl
   ·rfl
  ·rfl
 ·rename_i f Ii;have e1:Ii.toList.map ev=Ii.toList.map Pw:=cAE fun x hx=>he x (by simpa [Op.operands] using hx)
  rw[Oq (hp':=hp') (by
   intro x hx i hi;obtain⟨y,hy,rfl⟩:=List.mem_map.1 hx;exact h y (by simpa [Op.operands] using hy) i hi),e1]
 ·rename_i t y z;have e1:ev y=Pw y:=he _ (by simp[Op.operands]);have e3:ev z=Pw z:=he _ (by simp[Op.operands]);have e2:=h y (by simp[Op.operands]);have e4:cellsOf hp (ev z)=cellsOf hp' (Pw z):=by rw[Bl (h z (by simp[Op.operands])),e3]
  split
  ·rw[<-e1,e4,<-e3];split
   ·rename_i i off jD;rw[e2 i (by rw[jD];simp[refs,refsV,refsL])]
   ·rename_i i j jD;rw[e2 i (by rw[jD];simp[refs,refsV,refsL])]
   ·rfl
  ·rfl
 ·rw[he _ (by simp[Op.operands]),he _ (by simp[Op.operands])]
 ·rw[he _ (by simp[Op.operands])]
 ·rw[he _ (by simp[Op.operands])]
 ·rw[he _ (by simp[Op.operands]),he _ (by simp[Op.operands])]
 ·rename_i t y lo hi mx;have e1:ev y=Pw y:=he _ (by simp[Op.operands]);have e2:lo.map ev=lo.map Pw:=wY fun x hx=>he x (by subst hx;simp[Op.operands])
  have e3:hi.map ev=hi.map Pw:=wY fun x hx=>he x (by subst hx;simp[Op.operands])
  have e4:mx.map ev=mx.map Pw:=wY fun x hx=>he x (by subst hx;simp[Op.operands])
  rw[e1,e2,e3,e4]
 ·rw[he _ (by simp[Op.operands])]
 ·rw[he _ (by simp[Op.operands])]
 ·rename_i t y z;have e1:ev y=Pw y:=he _ (by simp[Op.operands]);have e3:ev z=Pw z:=he _ (by simp[Op.operands]);have e2:=h y (by simp[Op.operands]);rw[<-e1,e3];split
  ·split
   ·split
    ·split
     ·rfl
     ·rfl
     ·exact aMU e2
    ·rfl
   ·split
    ·rename_i jD;exact Fv (by rw[jD]at e2;exact e2)
    ·exact Fv (by intro i hi;cases hi)
    ·rfl
   ·rfl
  ·rfl
 ·rw[he _ (by simp[Op.operands]),he _ (by simp[Op.operands])]
 ·rw[he _ (by simp[Op.operands])]
 ·rename_i f args yC;have e1:args.toList.map ev=args.toList.map Pw:=cAE fun x hx=>he x (by simp[Op.operands,Call.operands];exact .inr (by simpa using hx))
  have e0:ev f=Pw f:=he f (by simp[Op.operands,Call.operands]);rw[e0,e1];split
  ·split
   ·rfl
   ·have hx:∀x∈args.toList.map Pw,∀i∈refs x,hp i=hp' i:=by
     intro x hx i hi;rw[<-e1]at hx;obtain⟨y,hy,rfl⟩:=List.mem_map.1 hx;exact h y (by simp[Op.operands,Call.operands];exact .inr (by simpa using hy)) i hi
    split
    ·exact Sl hx
    ·exact aCJ hx
  ·split
   ·split
    ·refine Sl ?_;intro x hx i hi;rcases List.mem_append.1 hx with hx |hx
     ·rw[<-e1]at hx;obtain⟨y,hy,rfl⟩:=List.mem_map.1 hx;exact h y (by simp[Op.operands,Call.operands];exact .inr (by simpa using hy)) i hi
     ·obtain⟨y,_,rfl⟩:=List.mem_map.1 hx;simp[refs,refsV,refsL]at hi
    ·rfl
   ·rfl
 ·rename_i b args yC;have e1:args.toList.map ev=args.toList.map Pw:=cAE fun x hx=>he x (by simpa [Op.operands,Call.operands] using hx)
  rw[e1];refine Vi ?_;intro x hx i hi;rw[<-e1]at hx;obtain⟨y,hy,rfl⟩:=List.mem_map.1 hx;exact h y (by simpa [Op.operands,Call.operands] using hy) i hi
 ·rfl
end AI
namespace AI
open Go Go.RowKit
inductive Gd where
 |run
 |skip
 |bad
def gd(ops:Array Oper)(o:Oper)(fr:Nat->A):Gd :=
 match o.guard with
 |none=>.run
 |some (j,want)=>match (ops[j]?).bind (·.dst)with
  |some d=>match fr d with
   | .v (.one (.s (.sc (.bool b))))=>if b=want then .run else .skip
   | .Lv []=>.skip
   |_=>.bad
  |none=>.bad
structure Dt where
 i:Nat
 o:Oper
 x:A
 u:qR
 t:List Nat
def zX(E:Env)(ops:Array Oper)(base:Nat)(d:Dt)(st gD:St):Prop :=
 ops[d.i]?=some d.o/\jI E.nt d.o=true /\
  ((gd ops d.o st.fr=.run/\qV E (base+8*d.i) d.o (evA E st.fr) st.hp=some (d.x,d.u)/\d.t=uK d.o (evA E st.fr) d.u)\/(gd ops d.o st.fr=.skip/\d.x=.Lv []/\d.u=[]/\d.t=[])) /\
  gD=after d.o st d.x d.u
def zJ(E:Env)(ops:Array Oper)(base:Nat):List Dt->St->St->Prop
 | [],st,gD=>st=gD
 |d :: l,st,gD=>∃st1,zX E ops base d st st1/\zJ E ops base l st1 gD
def Dt.told(d:Dt):Rec:=⟨d.i,d.o,d.t,d.u.map (·.1)⟩
def Es(ops:Array Oper)(d d':Dt):Prop:=indep ops d.told d'.i d'.o d'.t (d'.u.map (·.1))=true
theorem kS{R:Type}(len:Nat)(lo hi mx:Option A)(K:Nat->Nat->Option R):sliceK len lo hi mx K=(sliceK len lo hi mx fun l h=>some (l,h)).bind fun p=>K p.1 p.2:=by
 unfold sliceK;split
 ·split <;> rfl
 ·split
  ·split <;> rfl
  ·rfl
 ·rfl
theorem Jc{R S:Type}(n:Int)(f:Nat->S)(K:S->Option R):∀m j:Nat,splitN n m j (fun i=>K (f i))=(splitN n m j (fun i=>some (f i))).bind K
 |0,_=>rfl
 |m+1,j=>by
  unfold splitN;cases decide (n=(j:Int))with
  |true=>rfl
  |false=>exact Jc n f K m (j+1)
theorem rP{R:Type}(hp:Nat->Option kQ)(t:TI)(qP:Nat)(x:A)(n:Int)(K:A->Option R):idxK hp t qP x n K=(idxK hp t qP x n some).bind K:=by
 unfold idxK;split
 ·split
  ·split <;> rfl
  ·rfl
 ·split
  ·split
   ·split <;> rfl
   ·rfl
  ·split <;> rfl
  ·rfl
 ·split
  ·split
   ·split <;> rfl
   ·rfl
  ·rfl
 ·split
  ·split <;> rfl
  ·rfl
 ·split
  ·rename_i id off x len esz' g hk;cases bYW len 8 with
   |true=>exact Jc n (fun j=>A.v (V.one (L.ptr id (off+j*qP)))) K len 0
   |false =>
    simp only[cond_false];split <;> rfl
  ·rfl
 ·split
  ·split
   ·split <;> rfl
   ·rfl
  ·rfl
 ·rfl
theorem Ff{R S:Type}(n:Int){F:Nat->Option R}{G:Nat->Option S}(K:S->Option R)(h:∀j,F j=(G j).bind K):∀m j:Nat,splitN n m j F=(splitN n m j G).bind K
 |0,_=>rfl
 |m+1,j=>by
  unfold splitN;cases decide (n=(j:Int))with
  |true=>exact h j
  |false=>exact Ff n K h m (j+1)
theorem Rs{R:Type}(sh:Bool)(hp:Nat->Option kQ)(t:TI)(qP:Nat)(x:A)(n:Int)(K:A->Option R):idxS sh hp t qP x n K=(idxS sh hp t qP x n some).bind K:=by
 unfold idxS;split
 ·split
  ·exact Ff n K (fun j=>rP ..) _ 0
  ·exact rP ..
 ·exact rP ..
theorem Ot{R:Type}(E:Env)(id:Nat)(keep:Bool)(f:FuncId)(args:List A)(hp:Nat->Option kQ)(K:A->qR->Option R):callK E id keep f args hp K=(callK E id keep f args hp fun a u=>some (a,u)).bind fun p=>K p.1 p.2:=by
 unfold callK;split
 ·rfl
 ·split
  ·rfl
  ·rename_i g rs _;unfold aO;simp only[Fg];split
   ·cases bYW rs.length 8 with
    |false=>rfl
    |true =>
     simp only[cond_true];split <;> rfl
   ·rfl
theorem Zb{R:Type}(E:Env)(ps:List Nat)(id:Nat)(keep:Bool)(f:FuncId)(args:List A)(hp:Nat->Option kQ)(K:A->qR->Option R):callIO E ps id keep f args hp K=(callIO E ps id keep f args hp fun a u=>some (a,u)).bind fun p=>K p.1 p.2:=by
 unfold callIO;split
 ·rfl
 ·generalize (leqN _ _&&_)=bb;cases bb with
  |false=>rfl
  |true =>
   simp only[cond_true];split
   ·rfl
   ·unfold aO;simp only[Fg];split
    ·generalize (bYW _ _&&_&&_)=b2;cases b2 with
     |false=>rfl
     |true =>
      simp only[cond_true];split
      ·rfl
      ·split <;> rfl
    ·rfl
theorem Qv{R:Type}(n0 id:Nat)(e:TypeId)(te:TI)(s x:A)(hp:Nat->Option kQ)(K:A->qR->Option R):appCells n0 id e te s x hp K=(appCells n0 id e te s x hp fun a u=>some (a,u)).bind fun p=>K p.1 p.2:=by
 unfold appCells;split
 ·split
  ·split
   ·split
    ·split
     ·split <;> rfl
     ·rfl
    ·split <;> rfl
    ·rfl
   ·rfl
  ·rfl
 ·rfl
theorem Qs{R:Type}(E:Env)(id:Nat)(b:Builtin)(args:List A)(yC:List TypeId)(hp:Nat->Option kQ)(K:A->qR->Option R):builtinK E id b args yC hp K=(builtinK E id b args yC hp fun a u=>some (a,u)).bind fun p=>K p.1 p.2:=by
 unfold builtinK;split
 ·split <;> rfl
 ·split <;> rfl
 ·split <;> rfl
 ·split
  ·split
   ·split
    ·split
     ·split
      ·split
       ·generalize bZF _ _=bb;cases bb with
        |true=>rfl
        |false =>
         simp only[cond_false];split
         ·split <;> rfl
         ·rfl
       ·rfl
      ·split <;> rfl
      ·rfl
     ·rfl
    ·exact Qv ..
    ·rfl
   ·rfl
  ·rfl
 ·split
  ·split
   ·split
    ·split
     ·split <;> rfl
     ·rfl
    ·split
     ·split <;> rfl
     ·rfl
    ·rfl
   ·rfl
  ·rfl
 ·rfl
theorem pU {R : Type} (E : Env) (id : Nat) (o : Oper) (ev : Operand → A) (hp : Nat → Option kQ) (K : A → qR → Option R) : effK E id o ev hp K = (qV E id o ev hp).bind fun p => K p.1 p.2 := by
  unfold qV effK
  split
  · rfl
  · rfl
  · split
    · split
      · rfl
      · rename_i t _ _ _ _; cases t <;> rfl
    · rfl
  · split <;> rfl
  · split
    · split <;> rfl
    · rfl
  · split
    · rw [mR]; conv => rhs; rw [mR]
      rw [bZB]; rfl
    · rw [mR]; conv => rhs; rw [mR]
      rw [bZB]; rfl
    · rfl
  · split
    · split
      · split
        · rw [mR]; conv => rhs; rw [mR]
          rw [bZB]
          congr 1
          funext r
          split
          · split <;> rfl
          · rfl
        · rfl
      · rfl
    · rfl
  · split
    · split
      · split
        · split <;> rfl
        · rfl
      · split <;> rfl
      · split <;> rfl
      · split <;> rfl
      · rfl
    · rfl
  · split <;> rfl
  · split
    · split
      · split
        · split <;> rfl
        · rfl
      · split
        · split <;> rfl
        · rfl
      · rfl
    · rfl
  · split
    · generalize boolT _ _ = bb
      cases bb with
      | true => simp only [cond_true]; rw [Io]; conv => rhs; rw [Io]
                rw [bZB]; rfl
      | false => rfl
    · split
      · split <;> rfl
      · rfl
    · rfl
  · split
    · rw [Lt]; conv => rhs; rw [Lt]
      rw [bZB]; rfl
    · rfl
  · split
    · rw [Ek]; conv => rhs; rw [Ek]
      rw [bZB]; rfl
    · rfl
  · split
    · split
      · split
        · split <;> rfl
        · rfl
      · rfl
    · rfl
  · split
    · split
      · split
        · split
          · rw [kS]; conv => rhs; rw [kS]
            rw [bZB]; rfl
          · rfl
        · rw [kS]; conv => rhs; rw [kS]
          rw [bZB]; rfl
        · rw [kS]; conv => rhs; rw [kS]
          rw [bZB]; rfl
        · rw [kS]; conv => rhs; rw [kS]
          rw [bZB]; rfl
        · rfl
      · split
        · split
          · rw [kS]; conv => rhs; rw [kS]
            rw [bZB]; rfl
          · rfl
        · rfl
      · rfl
    · rfl
  · split
    · split
      · split <;> rfl
      · split <;> rfl
      · rfl
    · rfl
  · split
    · split
      · split <;> rfl
      · rfl
    · rfl
  · split
    · split
      · split
        · split
          · rfl
          · rfl
          · rw [Rs]; conv => rhs; rw [Rs]
            rw [bZB]; rfl
        · rfl
      · split
        · rw [rP]; conv => rhs; rw [rP]
          rw [bZB]; rfl
        · rw [rP]; conv => rhs; rw [rP]
          rw [bZB]; rfl
        · rfl
      · rfl
    · rfl
  · split
    · split
      · split <;> rfl
      · rfl
    · split <;> rfl
    · rfl
  · split
    · split <;> rfl
    · rfl
  · split
    · split
      · unfold aO
        split <;> rfl
      · split
        · exact Ot _ _ _ _ _ _ _
        · exact Zb _ _ _ _ _ _ _ _
    · split
      · split
        · exact Ot _ _ _ _ _ _ _
        · rfl
      · rfl
  · exact Qs _ _ _ _ _ _ _
  · rfl
theorem aDI(fr:Nat->A)(d:Nat)(b:Bool)(h:fr d=Df (.bool b)):Ck fr d (Df (.bool b))=fr:=Wu fr d _ h
theorem Rk{R:Type}(E:Env)(draw:Bool)(ops:Array Oper)(base:Nat)(K:St->Option R)(r:R):∀(l:List Oper) (i:Nat) (oV:List Rec) (st:St),
  (∀(k:Nat) (o:Oper),l[k]?=some o->ops[i+k]?=some o)->opsK E draw ops base l i oV st K=some r ->
  ∃ds gD,K gD=some r/\zJ E ops base ds st gD/\ds.map (·.i)=List.range' i l.length /\
   (draw=true->(∀rc∈oV,∀d∈ds,indep ops rc d.i d.o d.t (d.u.map (·.1))=true)/\cAS (Es ops) ds/\∀d∈ds,yU d.i d.o=true)
 | [],i,oV,st,_,h=>⟨[],st,h,rfl,rfl,fun _=>⟨fun _ _ _ hd=>(by cases hd),List.Pairwise.nil,fun _ hd=>(by cases hd)⟩⟩
 |o :: l,i,oV,st,hl,h=>by
  have hi:ops[i]?=some o:=by simpa using hl 0 o rfl
  have bHZ:∀(k:Nat) (o':Oper),l[k]?=some o'->ops[i+1+k]?=some o':=fun k o' hk=>by have:=hl (k+1) o' (by simpa using hk);rwa [show i+(k+1)=i+1+k by omega]at this
  unfold opsK at h;cases bLZ:jI E.nt o&&(!draw||yU i o)with
  |false=>rw[bLZ]at h;cases h
  |true =>
   rw[bLZ]at h;simp only[cond_true]at h;obtain⟨aHX,bIC⟩:=(bYZ _ _).mp bLZ;have go:∀(x:A) (u:qR) (t:List Nat),zX E ops base ⟨i,o,x,u,t⟩ st (after o st x u) ->
     (bif !draw||oV.all fun r=>indep ops r i o t (u.map (·.1))then opsK E draw ops base l (i+1) (⟨i,o,t,u.map (·.1)⟩ :: oV) (after o st x u) K else none)=some r ->
     ∃ds gD,K gD=some r/\zJ E ops base ds st gD/\ds.map (·.i)=List.range' i (o :: l).length /\
      (draw=true->(∀rc∈oV,∀d∈ds,indep ops rc d.i d.o d.t (d.u.map (·.1))=true)/\cAS (Es ops) ds/\∀d∈ds,yU d.i d.o=true):=by
    intro x u t hs hk;cases hc:!draw||oV.all fun r=>indep ops r i o t (u.map (·.1))with
    |false=>rw[hc]at hk;cases hk
    |true =>
     rw[hc]at hk;simp only[cond_true]at hk;obtain⟨ds,gD,h1,h2,h3,h4⟩:=Rk E draw ops base K r l (i+1) _ _ bHZ hk;refine⟨⟨i,o,x,u,t⟩ :: ds,gD,h1,⟨_,hs,h2⟩,by simp[h3,List.range'_succ],fun aHY=>?_⟩;obtain⟨h5,h6,h7⟩:=h4 aHY;subst aHY;simp only[cAT,cAU]at hc bIC;refine⟨fun rc bPP d hd=>?_,List.pairwise_cons.2 ⟨fun d hd=>(show indep ops ⟨i,o,t,u.map (·.1)⟩ d.i d.o d.t (d.u.map (·.1))=true from h5 _ (bZA ..) d hd),h6⟩,fun d hd=>?_⟩
     ·rcases List.mem_cons.1 hd with rfl |hd
      ·exact List.all_eq_true.1 hc rc bPP
      ·exact h5 rc (by simp[bPP]) d hd
     ·rcases List.mem_cons.1 hd with rfl |hd
      ·exact bIC
      ·exact h7 d hd
   split at h
   ·rename_i hg;rw[pU]at h;obtain⟨⟨x,u⟩,he,h⟩:=Option.bind_eq_some_iff.1 h;exact go x u _ ⟨hi,aHX,.inl ⟨by unfold gd;rw[hg],he,rfl⟩,rfl⟩ h
   ·rename_i j want hg;split at h
    ·rename_i d hd;split at h
     ·rename_i b hb;have e0:Ck st.fr d (Df (.bool b))=st.fr:=aDI st.fr d b hb;have bBV:∀w,(b==want)=w->gd ops o st.fr=if w=true then .run else .skip:=by
       intro w hw;unfold gd;rw[hg];simp only[hd,hb];subst hw
       by_cases aJW:b=want <;> simp[aJW]
      have key:(bif b==want then
        effK E (base+8*i) o (evA E st.fr) st.hp fun a u =>
         bif !draw||oV.all fun r=>indep ops r i o (uK o (evA E st.fr) u) (u.map (·.1))then opsK E draw ops base l (i+1) (⟨i,o,uK o (evA E st.fr) u,u.map (·.1)⟩ :: oV) (after o st a u) K else none
       else bif !draw||oV.all fun r=>indep ops r i o [] []then opsK E draw ops base l (i+1) (⟨i,o,[],[]⟩ :: oV) (after o st (.Lv []) []) K else none)=some r:=by
       cases b
       ·simp only[cond_false,e0]at h;exact h
       ·simp only[cond_true,e0]at h;exact h
      cases aJW:b==want with
      |true =>
       rw[aJW]at key;simp only[cond_true]at key;rw[pU]at key;obtain⟨⟨x,u⟩,he,key⟩:=Option.bind_eq_some_iff.1 key;exact go x u _ ⟨hi,aHX,.inl ⟨by rw[bBV true aJW];rfl,he,rfl⟩,rfl⟩ key
      |false =>
       rw[aJW]at key;simp only[cond_false]at key;exact go (.Lv []) [] [] ⟨hi,aHX,.inr ⟨by rw[bBV false aJW];rfl,rfl,rfl,rfl⟩,rfl⟩ key
     ·rename_i hb;exact go (.Lv []) [] [] ⟨hi,aHX,.inr ⟨by unfold gd;rw[hg];simp only[hd,hb],rfl,rfl,rfl⟩,rfl⟩ h
     ·cases h
    ·cases h
end AI
namespace AI
open Go Go.RowKit
theorem Cx{xs ys:List Nat}(h:Qo xs ys=true){i:Nat}(hx:i∈xs):i ∉ ys:=by
 intro hy;have:=List.all_eq_true.1 h i hx;simp at this;exact this hy
theorem iX{u:qR}{hp:Nat->Option kQ}{i:Nat}(h:i ∉ u.map (·.1)):applyUps u hp i=hp i:=by
 induction u generalizing hp with
 |nil=>rfl
 |cons p u ih =>
  obtain⟨j,b⟩:=p;simp only[bYS,cAB,not_or]at h;rw[applyUps,ih h.2,gB _ _ h.1]
theorem Dr{u:qR}{hp hp':Nat->Option kQ}{i:Nat}(h:i∈u.map (·.1)):applyUps u hp i=applyUps u hp' i:=by
 induction u generalizing hp hp' with
 |nil=>cases h
 |cons p u ih =>
  obtain⟨j,b⟩:=p;simp only[applyUps]
  by_cases hi:i∈u.map (·.1)
  ·exact ih hi
  ·have e:i=j:=by simpa [hi] using h
   subst e;rw[iX hi,iX hi,bR,bR]
theorem Qu{u v:qR}{hp:Nat->Option kQ}(h:Qo (u.map (·.1)) (v.map (·.1))=true):applyUps u (applyUps v hp)=applyUps v (applyUps u hp):=by
 funext i
 by_cases hu:i∈u.map (·.1)
 ·have hv:i ∉ v.map (·.1):=Cx h hu;rw[iX hv];exact Dr hu
 ·rw[iX hu]
  by_cases hv:i∈v.map (·.1)
  ·exact Dr hv
  ·rw[iX hv,iX hv,iX hu]
theorem aSE{o:Oper}{x:A}{fr:Nat->A}{t:Nat}(h:o.dst≠some t):Ed o x fr t=fr t:=by
 unfold Ed;cases hd:o.dst with
 |some d=>exact gB _ _ (fun e=>h (by rw[hd,e]))
 |none=>rfl
theorem aHF{o o':Oper}{x x':A}{fr:Nat->A}(h:∀d,o.dst=some d->o'.dst≠some d):Ed o x (Ed o' x' fr)=Ed o' x' (Ed o x fr):=by
 unfold Ed;cases hd:o.dst with
 |none=>rfl
 |some d =>
  cases Af:o'.dst with
  |none=>rfl
  |some d' =>
   have Be:d≠d':=fun e=>h d hd (by rw[Af,e])
   funext t;simp only
   by_cases h1:t=d
   ·subst h1;rw[bR,gB _ _ Be,bR]
   ·rw[gB _ _ h1]
    by_cases h2:t=d'
    ·subst h2;rw[bR,bR]
    ·rw[gB _ _ h2,gB _ _ h2,gB _ _ h1]
def bBD(ops:Array Oper)(p q:Dt):Prop:=p.o.apart ops q.o=true/\Qo (p.u.map (·.1)) q.t=true/\Qo (q.u.map (·.1)) p.t=true
theorem bBD.symm{ops:Array Oper}{p q:Dt}(h:bBD ops p q):bBD ops q p:=by
 refine⟨?_,h.2.2,h.2.1⟩;obtain⟨h1,h2,h3⟩:=Oper.apart_spec h.1;unfold Oper.apart;rw[bYZ];constructor
 ·cases hq:q.o.dst with
  |none=>rfl
  |some d =>
   simp only[bYZ,cAD,bne_iff_ne,ne_eq];refine⟨by simpa using h3 d hq,fun hp=>?_⟩;exact h2 d hp hq
 ·cases hp:p.o.dst with
  |none=>rfl
  |some d=>simpa using h1 d hp
section
variable {E:Env} {ops:Array Oper} {base:Nat}
theorem Ud{o:Oper}{t:Tmp}(h:Operand.tmp t∈o.op.operands.toList):t∈o.looksAt ops:=by
 unfold Oper.looksAt;exact List.mem_append.2 (.inl (List.mem_filterMap.2 ⟨_,h,rfl⟩))
theorem aOI{fr bCG:Nat->A}{o:Oper}(h:∀t,t∈o.looksAt ops->fr t=bCG t){x:Operand}(hx:x∈o.op.operands.toList):evA E fr x=evA E bCG x:=by
 cases x with
 |tmp t=>exact h t (Ud hx)
 |_=>rfl
theorem aFT{fr bCG:Nat->A}{o:Oper}(h:∀t,t∈o.looksAt ops->fr t=bCG t):gd ops o fr=gd ops o bCG:=by
 unfold gd;cases hg:o.guard with
 |none=>rfl
 |some p =>
  obtain⟨j,want⟩:=p;simp only;cases hd:(ops[j]?).bind (·.dst)with
  |none=>rfl
  |some d =>
   have:fr d=bCG d:=h d (by
    unfold Oper.looksAt;rw[hg];exact List.mem_append.2 (.inr (by simp[hd])))
   simp only[this]
theorem zX.same{p:Dt}{st st1:St}(bBW:∀t,t∈p.o.looksAt ops->st.fr t=st1.fr t)(Yh:∀i,i∈p.t->st.hp i=st1.hp i){bHK:St}(h:zX E ops base p st1 bHK):zX E ops base p st (after p.o st p.x p.u):=by
 obtain⟨h1,h2,h3,_⟩:=h;refine⟨h1,h2,?_,rfl⟩;rcases h3 with ⟨hg,he,ht⟩ |⟨hg,hx,hu,ht⟩
 ·have jD:∀x,x∈p.o.op.operands.toList->evA E st1.fr x=evA E st.fr x:=fun x hx=>(aOI (ops:=ops) bBW hx).symm
  refine .inl ⟨by rw[aFT (ops:=ops) bBW];exact hg,?_,?_⟩
  ·rw[<-he];exact(aOT jD (fun x hx i hi=>(Yh i (by rw[ht];exact List.mem_append.2 (.inl (List.mem_flatMap.2 ⟨x,hx,hi⟩)))).symm)).symm
  ·rw[ht];unfold uK;congr 1;rw[cBP,cBP];congr 1;exact cAE fun x hx=>by rw[jD x hx]
 ·exact .inr ⟨by rw[aFT (ops:=ops) bBW];exact hg,hx,hu,ht⟩
theorem Ds{q:Dt}{st:St}{o:Oper}(h:∀d,q.o.dst=some d->d ∉ o.looksAt ops):∀t,t∈o.looksAt ops->st.fr t=(after q.o st q.x q.u).fr t:=by
 intro t ht;exact(aSE (fun e=>h t e ht)).symm
theorem aKJ{p:Dt}{st gD:St}(h:zX E ops base p st gD):∀i,i∈p.u.map (·.1)->i∈p.t:=by
 intro i hi;obtain⟨_,_,h3,_⟩:=h;rcases h3 with ⟨_,_,ht⟩ |⟨_,_,hu,_⟩
 ·rw[ht];exact List.mem_append.2 (.inr hi)
 ·rw[hu]at hi;cases hi
theorem zJ.swap{p q:Dt}{l:List Dt}{st bCV:St}(hi:bBD ops q p)(h:zJ E ops base (q :: p :: l) st bCV):zJ E ops base (p :: q :: l) st bCV:=by
 obtain⟨st1,hq,bHK,hp,hl⟩:=h;obtain⟨a1,a2,a3⟩:=Oper.apart_spec hi.1;have e1:st1=after q.o st q.x q.u:=hq.2.2.2;have e2:bHK=after p.o st1 p.x p.u:=hp.2.2.2;have hp':zX E ops base p st (after p.o st p.x p.u):=by
  refine zX.same (st1:=st1) ?_ ?_ hp
  ·rw[e1];exact Ds a1
  ·intro i aFI;rw[e1];exact(iX (fun hm=>Cx hi.2.1 hm aFI)).symm
 have aFF:zX E ops base q (after p.o st p.x p.u) (after q.o (after p.o st p.x p.u) q.x q.u):=by
  refine zX.same (st1:=st) ?_ ?_ hq
  ·intro t ht;exact(Ds a3 t ht).symm
  ·intro i aFI;exact iX (fun hm=>Cx hi.2.2 hm aFI)
 have e3:after q.o (after p.o st p.x p.u) q.x q.u=bHK:=by
  rw[e2,e1];unfold after;simp only;rw[aHF (o:=q.o) (o':=p.o) (fun d hd=>a2 d hd),Qu];have hu:=aKJ hp;unfold Qo;rw[List.all_eq_true];intro i aFI;have:=Cx hi.2.1 aFI;simp only[cAD,List.elem_eq_mem,decide_eq_false_iff_not];exact fun hm=>this (hu i hm)
 exact⟨_,hp',_,aFF,by rw[e3];exact hl⟩
theorem zJ.front{p:Dt}{l2:List Dt}{bCV:St}:∀{l1:List Dt} {st:St},(∀q∈l1,bBD ops q p)->zJ E ops base (l1 ++ p :: l2) st bCV->zJ E ops base (p :: (l1 ++ l2)) st bCV
 | [],st,_,h=>h
 |q :: l1,st,hi,h=>by
  obtain⟨st1,hq,h⟩:=h;have ih:=zJ.front (fun q' aFF=>hi q' (bZE _ aFF)) h;exact zJ.swap (hi q (bZA ..)) ⟨st1,hq,ih⟩
end
def aUS(base:Nat)(done:Nat->Prop)(id:Nat):Prop:=id<base\/∃i,done i/\base+8*i<=id/\id<base+8*i+8
section
variable {P:Program} {E:Env} {X:Nat->Prop} {w0:Old} {ops:Array Oper} {base:Nat}
theorem jJ.sR{ρ:Nat->Nat}{al al':Nat->Prop}{fr:Nat->A}{hp:Nat->Option kQ}{a:Act}{w:World}(h:jJ E X w0 ρ al fr hp a w)(sJ:∀i,al i->al' i):jJ E X w0 ρ al' fr hp a w :=
 { fr:=h.fr,sz:=h.sz,nod:=h.nod,blk:=h.blk,inj:=h.inj,alh:=fun i b hb=>sJ i (h.alh i b hb),alr:=fun t i hi=>sJ i (h.alr t i hi),below:=h.below,x0:=h.x0,glob:=h.glob,mg:=h.mg,al0:=fun i hi=>sJ i (h.al0 i hi),wL:=h.wL }
theorem Sa{ρ:Nat->Nat}{al:Nat->Prop}{fr:Nat->A}{hp:Nat->Option kQ}{a:Act}{w:World}(h:jJ E X w0 ρ al fr hp a w){o:Oper} :
  (gd ops o fr=.run->Region.wanted o (yielded ops a.tmps)=true)/\(gd ops o fr=.skip->Region.wanted o (yielded ops a.tmps)=false):=by
 unfold gd Region.wanted;cases hg:o.guard with
 |none=>exact⟨fun _=>rfl,fun h=>by cases h⟩
 |some p =>
  obtain⟨j,want⟩:=p;simp only;cases hd:(ops[j]?).bind (·.dst)with
  |none=>exact⟨fun h=>(by cases h),fun h=>(by cases h)⟩
  |some d =>
   simp only;split
   ·rename_i b hb;have hr:=h.fr d;rw[hb]at hr;have hv:a.tmps.getD d undef=.bool b:=hr.1;have hy:yielded ops a.tmps j=some b:=by
     unfold yielded;rw[hd];simp only[cAL];have:a.tmps[d]?=some (.bool b):=by
      rw[Array.getD_eq_getD_getElem?]at hv;cases hq:a.tmps[d]? with
      |none=>rw[hq]at hv;simp[undef]at hv
      |some v=>rw[hq]at hv;simp at hv;rw[hv]
     rw[this]
    rw[hy]
    by_cases aJW:b=want
    ·simp[aJW]
    ·simp[aJW]
   ·rename_i hb;have hr:=h.fr d;rw[hb]at hr;obtain⟨arr,hv,_⟩:=hr;have hy:yielded ops a.tmps j=none:=by
     unfold yielded;rw[hd];simp only[cAL];rw[Array.getD_eq_getD_getElem?]at hv;cases hq:a.tmps[d]? with
     |none=>rfl
     |some v=>rw[hq]at hv;simp at hv;rw[hv]
    rw[hy];exact⟨fun h=>(by cases h),fun _=>rfl⟩
   ·exact⟨fun h=>(by cases h),fun h=>(by cases h)⟩
theorem zX.wp(hT:oS P E.T)(hC:kO P E){ρ:Nat->Nat}{done:Nat->Prop}{a:Act}{w:World}{st gD:St}{d:Dt}(hs:zX E ops base d st gD)(h:jJ E X w0 ρ (aUS base done) st.fr st.hp a w)(hnd:¬done d.i)
  (K:Act->World->Prop) (Q:Exit->Act->World->Prop) (hK:∀ρ' a' w',jJ E X w0 ρ' (aUS base fun i=>done i\/i=d.i) gD.fr gD.hp a' w'->K a' w'):wpOp P ops Q d.i K a w:=by
 obtain⟨h1,h2,h3,rfl⟩:=hs;unfold wpOp;rw[h1];simp only;have Ru:∀i,oO (aUS base done) (base+8*d.i) i->aUS base (fun i=>done i\/i=d.i) i:=by
  rintro i ((hi |⟨j,hj,aHU⟩) |hi)
  ·exact .inl hi
  ·exact .inr ⟨j,.inl hj,aHU⟩
  ·exact .inr ⟨d.i,.inr rfl,hi⟩
 rcases h3 with ⟨hg,he,ht⟩ |⟨hg,hx,hu,ht⟩
 ·rw[if_pos ((Sa h).1 hg)];refine .inl (aAM h h2 hT hC ?_ he K Q (fun ρ' v w' aBL=>hK ρ' _ w' (aBL.sR Ru)));rintro j hj (kD |⟨i,hi,bLS⟩)
  ·omega
  ·have:i=d.i:=by omega
   subst this;exact hnd hi
 ·rw[if_neg (by rw[(Sa h).2 hg];simp)];rw[hx,hu]at hK;exact hK ρ _ w ((h.pure h2 (x:=.Lv []) (v:=undef) ⟨#[],rfl,rfl,fun i y u hy=>by cases hy⟩ (by simp[refs])).sR (fun i hi=>Ru i (.inl hi)))
theorem zJ.wpOps(hT:oS P E.T)(hC:kO P E)(Q:Exit->Act->World->Prop):∀(ds:List Dt) (done:Nat->Prop) (ρ:Nat->Nat) (a:Act) (w:World) (st gD:St),zJ E ops base ds st gD->jJ E X w0 ρ (aUS base done) st.fr st.hp a w ->
  (∀d∈ds,¬done d.i)->(ds.map (·.i)).Nodup->(∀ρ' a' w',jJ E X w0 ρ' (aUS base fun i=>done i\/i∈ds.map (·.i)) gD.fr gD.hp a' w'->Q .normal a' w') ->
  Go.wpOps P ops Q (ds.map (·.i)) a w
 | [],done,ρ,a,w,st,gD,h,hs,_,_,hQ=>by
  cases h;exact hQ ρ a w (hs.sR (fun i hi=>hi.imp id fun⟨j,hj,aHU⟩=>⟨j,.inl hj,aHU⟩))
 |d :: ds,done,ρ,a,w,st,gD,h,hs,hnd,Aa,hQ=>by
  obtain⟨st1,hd,hr⟩:=h;rw[bYS,wpOps_cons];rw[bYS,List.nodup_cons]at Aa;refine hd.wp hT hC hs (hnd d (bZA ..)) _ _ (fun ρ' a' w' sV=>?_);refine zJ.wpOps hT hC Q ds _ ρ' a' w' st1 gD hr sV (fun d' Af Yj=>?_) Aa.2 (fun ρ2 a2 w2 Pt=>hQ ρ2 a2 w2 (Pt.sR ?_))
  ·rcases Yj with Yj |Yj
   ·exact hnd d' (bZE _ Af) Yj
   ·exact Aa.1 (List.mem_map.2 ⟨d',Af,Yj⟩)
  ·rintro i (hi |⟨j,hj,aHU⟩)
   ·exact .inl hi
   ·refine .inr ⟨j,?_,aHU⟩;rcases hj with (hj |hj) |hj
    ·exact .inl hj
    ·exact .inr (by rw[bYS,hj];exact bZA ..)
    ·exact .inr (by rw[bYS];exact bZE _ hj)
theorem Es.ind{p q:Dt}(h:Es ops p q)(Be:¬(q.o.after.any fun e=>Region.binds .any e&&e.on==p.i)=true)(bLF:¬befB ops p.i 3 q.o=true):bBD ops p q:=by
 unfold Es indep at h;rw[cAF,cAF]at h;rcases h with (h |h) |h
 ·exact absurd h Be
 ·simp only[bYZ]at h;exact⟨h.1.1,h.1.2,h.2⟩
 ·exact absurd h bLF
def Wj(ops:Array Oper)(iP:Array Bool):Prop:=∀(j:Nat) (o:Oper),iP.getD j false=true->ops[j]?=some o->o.after.all (fun e=>!Region.binds .any e||iP.getD e.on false)=true
theorem Wj.bRG{iP:Array Bool}(hc:Wj ops iP){j:Nat}:∀(n:Nat) (o:Oper),o.after.all (fun e=>!Region.binds .any e||iP.getD e.on false)=true->befB ops j n o=true->iP.getD j false=true
 |0,_,_,h=>by cases h
 |n+1,o,ha,h=>by
  unfold befB at h;rw[Array.any_eq_true']at h;obtain⟨e,he,aZB⟩:=h;rw[bYZ]at aZB;rw[Array.all_eq_true_iff_forall_mem]at ha;have h1:=ha e he;rw[aZB.1]at h1;simp only[cAT,cAU]at h1;have h2:=aZB.2;rw[cAF]at h2;rcases h2 with h2 |h2
  ·have:e.on=j:=by simpa using h2
   rw[<-this];exact h1
  ·cases ho:ops[e.on]? with
   |none=>rw[ho]at h2;cases h2
   |some o' =>
    rw[ho]at h2;exact hc.bRG n o' (hc e.on o' h1 ho) h2
theorem zJ.wpAny(hT:oS P E.T)(hC:kO P E)(Q:Exit->Act->World->Prop)(n:Nat)(hn:n=ops.size):∀(fuel:Nat) (ds:List Dt) (iP:Array Bool) (ρ:Nat->Nat) (a:Act) (w:World) (st gD:St),ds.length=fuel->iP.size=n ->
  (∀i,i∈ds.map (·.i)↔i<n/\iP.getD i true=false)->(ds.map (·.i)).Pairwise (· < ·)->cAS (Es ops) ds->(∀d∈ds,yU d.i d.o=true)->Wj ops iP ->
  zJ E ops base ds st gD->jJ E X w0 ρ (aUS base fun i=>iP.getD i false=true) st.fr st.hp a w ->
  (∀ρ' a' w',jJ E X w0 ρ' (aUS base fun i=>i<n) gD.fr gD.hp a' w'->Q .normal a' w') ->
  Go.wpAny P .any ops Q fuel iP a w:=by
 intro fuel
 induction fuel with
 |zero =>
  intro ds iP ρ a w st gD hlen bPX Nq _ _ _ _ gR hs hQ;obtain rfl:ds=[]:=cBI hlen;cases gR;have Bg:∀i,i<n->iP.getD i true=true:=by
   intro i hi;cases hq:iP.getD i true with
   |true=>rfl
   |false=>exact absurd ((Nq i).2 ⟨hi,hq⟩) (by simp)
  refine⟨?_,hQ ρ a w (hs.sR ?_)⟩
  ·unfold Region.ready;rw[List.filter_eq_nil_iff];intro i hi;rw[cAV,<-hn]at hi;simp[Bg i hi]
  ·rintro i (hi |⟨j,hj,aHU⟩)
   ·exact .inl hi
   ·refine .inr ⟨j,?_,aHU⟩;rcases bZJ j n with h |h
    ·exact h
    ·rw[Array.getD_eq_getD_getElem?,Array.getElem?_eq_none (by omega)]at hj;cases hj
 |succ fuel ih =>
  intro ds iP ρ a w st gD hlen bPX Nq aHR aND aFK aJV gR hs hQ;have vQ:∀d∈ds,ops[d.i]?=some d.o:=by
   have:∀(l:List Dt) (s s':St),zJ E ops base l s s'->∀d∈l,ops[d.i]?=some d.o:=by
    intro l
    induction l with
    |nil=>intro s s' _ d hd;cases hd
    |cons d l ih =>
     intro s s' h d' Af;obtain⟨s1,h1,h2⟩:=h;rcases List.mem_cons.1 Af with rfl |Af
     ·exact h1.1
     ·exact ih s1 s' h2 d' Af
   exact this ds st gD gR
  have aNC:∀i,i∈Region.ready .any ops iP↔i<n/\iP.getD i true=false/\∃o,ops[i]?=some o/\o.after.all (fun e=>!Region.binds .any e||iP.getD e.on false)=true:=by
   intro i;unfold Region.ready;rw[List.mem_filter,cAV,<-hn];constructor
   ·rintro ⟨h1,h2⟩;rw[bYZ]at h2;refine⟨h1,by simpa using h2.1,?_⟩;cases ho:ops[i]? with
    |none=>rw[ho]at h2;simp at h2
    |some o=>exact⟨o,rfl,by have:=h2.2;rw[ho]at this;simpa using this⟩
   ·rintro ⟨h1,h2,o,ho,h3⟩;refine⟨h1,?_⟩;rw[bYZ];exact⟨by simp[h2],by rw[ho];simpa using h3⟩
  refine⟨fun bEU=>?_,fun i hi=>?_⟩
  ·
   exfalso
   match ds,hlen with
   |d :: ds,_ =>
    have hd:d.i<n/\iP.getD d.i true=false:=(Nq d.i).1 (bZA ..);have:d.i∈Region.ready .any ops iP:=by
     refine(aNC d.i).2 ⟨hd.1,hd.2,d.o,vQ d (bZA ..),?_⟩;have he:=aFK d (bZA ..);unfold yU at he;rw[Array.all_eq_true_iff_forall_mem]at he ⊢;intro e bVX;have:=he e bVX;rw[cAF]at this ⊢;rcases this with h |h
     ·exact .inl h
     ·right;have kD:e.on<d.i:=cAR h;cases hq:iP.getD e.on false with
      |true=>rfl
      |false =>
       have aFF:iP.getD e.on true=false:=by
        rw[Array.getD_eq_getD_getElem?]at hq ⊢;rw[Array.getElem?_eq_getElem (by omega)]at hq ⊢;exact hq
       have hm:=(Nq e.on).2 ⟨by omega,aFF⟩;rw[bYS,cAB]at hm;rw[bYS,List.pairwise_cons]at aHR;rcases hm with hm |hm
       ·omega
       ·have:=aHR.1 _ hm;omega
    rw[bEU]at this;cases this
  ·obtain⟨h1,h2,o,ho,h3⟩:=(aNC i).1 hi;have bVI:=(Nq i).2 ⟨h1,h2⟩;obtain⟨p,hp,bEK⟩:=List.mem_map.1 bVI;obtain⟨l1,l2,rfl⟩:=List.append_of_mem hp;have bPT:p.o=o:=by have:=vQ p hp;rw[bEK,ho]at this;exact(Option.some.inj this).symm
   have bLP:∀q∈l1,bBD ops q p:=by
    intro q hq;have bUM:Es ops q p:=(List.pairwise_append.1 aND).2.2 q hq p (bZA ..);have bUQ:¬iP.getD q.i false=true:=by
     have bKX:=(Nq q.i).1 (List.mem_map.2 ⟨q,by simp[hq],rfl⟩);have h4:=bKX.2;rw[Array.getD_eq_getD_getElem?,Array.getElem?_eq_getElem (by omega)]at h4;rw[Array.getD_eq_getD_getElem?,Array.getElem?_eq_getElem (by omega)];rw[cBQ]at h4 ⊢;rw[h4];simp
    refine bUM.ind (fun Fy=>?_) (fun hb=>bUQ (aJV.bRG 3 p.o (by rw[bPT];exact h3) hb));rw[Array.any_eq_true']at Fy;obtain⟨e,he,aZB⟩:=Fy;rw[bYZ]at aZB;rw[Array.all_eq_true_iff_forall_mem]at h3;have:=h3 e (by rw[<-bPT];exact he);rw[aZB.1]at this;simp only[cAT,cAU]at this;have bUJ:e.on=q.i:=by simpa using aZB.2
    have bKX:=(Nq q.i).1 (List.mem_map.2 ⟨q,by simp[hq],rfl⟩);rw[bUJ]at this;rw[Array.getD_eq_getD_getElem?,Array.getElem?_eq_getElem (by omega)]at this;have h4:=bKX.2;rw[Array.getD_eq_getD_getElem?,Array.getElem?_eq_getElem (by omega)]at h4;rw[cBQ]at this h4;rw[this]at h4;cases h4
   obtain⟨st1,aMZ,zU⟩:=zJ.front bLP gR;rw[<-bEK];have Rt:iP.getD p.i false=false:=by
    have:=h2;rw[<-bEK]at this;rw[Array.getD_eq_getD_getElem?,Array.getElem?_eq_getElem (by omega)]at this ⊢;exact this
   refine aMZ.wp hT hC hs (by simp[Rt]) _ _ (fun ρ' a' w' sV=>?_);have aYN:∀x∈(l1 ++ l2).map (·.i),x≠p.i:=by
    intro x hx;rw[bZU,bYS,List.pairwise_append]at aHR;rw[bZU,bZW]at hx;rcases hx with hx |hx
    ·have:=aHR.2.2 x hx p.i (bZA ..);omega
    ·have:=(List.pairwise_cons.1 aHR.2.1).1 x hx;omega
   have bMH:Wj ops (iP.setIfInBounds p.i true):=by
    have Ru:∀k,iP.getD k false=true->(iP.setIfInBounds p.i true).getD k false=true:=by
     intro k hk;rw[Array.getD_eq_getD_getElem?,Array.getElem?_setIfInBounds]
     by_cases aYS:p.i=k
     ·rw[if_pos aYS,aW];rfl
     ·rw[if_neg aYS,<-Array.getD_eq_getD_getElem?];exact hk
    have aJQ:∀(o':Oper),o'.after.all (fun e=>!Region.binds .any e||iP.getD e.on false)=true->o'.after.all (fun e=>!Region.binds .any e||(iP.setIfInBounds p.i true).getD e.on false)=true:=by
     intro o' aJR;rw[Array.all_eq_true_iff_forall_mem]at aJR ⊢;intro e he;have:=aJR e he;rw[cAF]at this ⊢;exact this.imp id (Ru _)
    intro j o' hj aJR
    by_cases bFE:p.i=j
    ·have:o'=o:=by rw[<-bFE,bEK,ho]at aJR;exact(Option.some.inj aJR).symm
     rw[this];exact aJQ o h3
    ·rw[Array.getD_eq_getD_getElem?,Array.getElem?_setIfInBounds,if_neg bFE,<-Array.getD_eq_getD_getElem?]at hj;exact aJQ o' (aJV j o' hj aJR)
   refine ih (l1 ++ l2) _ ρ' a' w' st1 gD (by simp at hlen ⊢;omega) (by simpa using bPX) ?_ ?_ ?_ ?_ bMH zU (sV.sR ?_) hQ
   ·intro x;have Wo:=Nq x;rw[bZU,bYS,bZW,cAB]at Wo;rw[bZU,bZW];rw[Array.getD_eq_getD_getElem?,Array.getElem?_setIfInBounds];constructor
    ·intro hx;have Be:=aYN x (by rw[bZU,bZW];exact hx);have:=Wo.1 (hx.imp id .inr);refine⟨this.1,?_⟩;rw[if_neg (fun e=>Be e.symm),<-Array.getD_eq_getD_getElem?];exact this.2
    ·rintro ⟨bTO,aVW⟩
     by_cases bBM:p.i=x
     ·rw[if_pos bBM,aW]at aVW;simp at aVW
     ·rw[if_neg bBM,<-Array.getD_eq_getD_getElem?]at aVW;rcases Wo.2 ⟨bTO,aVW⟩with h |h |h
      ·exact .inl h
      ·exact absurd h.symm bBM
      ·exact .inr h
   ·exact aHR.sublist (by simp)
   ·exact aND.sublist (by simp)
   ·exact fun d hd=>aFK d (by rcases List.mem_append.1 hd with h |h <;> simp[h])
   ·rintro x (hx |⟨j,hj,aHU⟩)
    ·exact .inl hx
    ·refine .inr ⟨j,?_,aHU⟩;show(iP.setIfInBounds p.i true).getD j false=true;rw[Array.getD_eq_getD_getElem?,Array.getElem?_setIfInBounds];rcases hj with hj |hj
     ·by_cases bFE:p.i=j
      ·rw[if_pos bFE,aW];rfl
      ·rw[if_neg bFE,<-Array.getD_eq_getD_getElem?];exact hj
     ·rw[if_pos hj.symm,aW];rfl
theorem Ts(hT:oS P E.T)(hC:kO P E)(hm:P.follows .mixedOrders=true){bSI:Nat}{draw:Bool}{R:Type}{K:St->Option R}{r:R}{st:St}{ρ:Nat->Nat}{a:Act}{w:World}(hs:jJ E X w0 ρ (fun i=>i<st.n) st.fr st.hp a w)
  (he:opsK E draw ops st.n ops.toList 0 [] st K=some r) (Q:Exit->Act->World->Prop) (hQ:∀gD ρ' a' w',K gD=some r->jJ E X w0 ρ' (fun i=>i<st.n+8*ops.size) gD.fr gD.hp a' w'->Q .normal a' w') :
  (Code.region bSI ops draw).wp P Q a w:=by
 obtain⟨ds,gD,hK,gR,bFJ,bFQ⟩:=Rk E draw ops st.n K r ops.toList 0 [] st (fun k o hk=>by rw[bYV];simpa using hk) he;have hlen:ds.length=ops.size:=by have:=congrArg List.length bFJ;simpa using this
 have Um:ds.map (·.i)=cAG ops.size:=by rw[bFJ,Array.length_toList,List.range_eq_range']
 have sJ:∀i,aUS st.n (fun i=>i<ops.size) i->i<st.n+8*ops.size:=by
  rintro i (hi |⟨j,hj,aHU⟩) <;> omega
 have Nq:∀i,i∈ds.map (·.i)↔i<ops.size:=fun i=>by rw[Um,cAV]
 cases draw with
 |false =>
  refine wp_region ?_;rw[<-Um];refine gR.wpOps hT hC Q ds (fun _=>False) ρ a w st gD (hs.sR (fun i hi=>.inl hi)) (fun _ _ h=>h) (by rw[Um];exact List.nodup_range) (fun ρ' a' w' sV=>hQ gD ρ' a' w' hK (sV.sR (fun i hi=>sJ i ?_)));rcases hi with hi |⟨j,hj,aHU⟩
  ·exact .inl hi
  ·exact .inr ⟨j,(Nq j).1 (hj.resolve_left id),aHU⟩
 |true =>
  obtain⟨_,aND,aFK⟩:=bFQ rfl;refine wp_region_any hm ?_;have Zz:jJ E X w0 ρ (fun i=>i<st.n) st.fr st.hp a { w with drawn:=w.drawn+1 }:=hs.drew;refine zJ.wpAny hT hC Q ops.size rfl ops.size ds _ ρ a _ st gD hlen (by simp) (fun i=>?_) ?_ aND aFK (fun j o hj _=>?_) gR (Zz.sR (fun i hi=>.inl hi)) (fun ρ' a' w' sV=>hQ gD ρ' a' w' hK (sV.sR sJ))
  ·rw[Nq];constructor
   ·intro hi;exact⟨hi,by rw[Array.getD_eq_getD_getElem?,Array.getElem?_replicate,if_pos hi];rfl⟩
   ·exact fun h=>h.1
  ·rw[Um];exact List.pairwise_lt_range
  ·exfalso;rw[Array.getD_eq_getD_getElem?,Array.getElem?_replicate]at hj;split at hj <;> cases hj
end
end AI
namespace AI
open Go Go.RowKit
section
variable {P:Program} {E:Env} {X:Nat->Prop} {w0:Old}
def Lp(n0:Nat)(st:St)(p s i:Nat)(kv:KV):Prop :=
 kv=(.any,none)\/(bYW 1000000 s=true/\aOA st (s%1000000)=some (i,kv.1)/\kv.2=none/\n0<=i)\/(∃n,kv=(.v (.one (.buf p n)),st.hp i)/\st.fr (s%1000000)=.v (.one (.buf i n)))\/(kv=(.v (.one (.ptr p 0)),st.hp i)/\st.fr (s%1000000)=.v (.one (.ptr i 0)))\/(kv=(st.fr (s%1000000),none)/\∀i∈refs (st.fr (s%1000000)),i<n0)
def claim(s:Nat)(kv:KV):Bool:=kv.2.isSome||(bYW 1000000 s&&(match kv.1 with | .any=>false |_=>true))
theorem aIC{st:St}{s i:Nat}{a:A}(h:aOA st s=some (i,a)):∃n sz f,st.fr s=.v (.one (.buf i n))/\a=.v (.one (.rows sz n f))/\toD st.hp (.v (.one (.buf i n)))=some (.rows sz n f):=by
 unfold aOA at h;split at h
 ·rename_i i' n hf;split at h
  ·rename_i e cs hb;split at h
   ·rename_i hc;cases h;refine⟨n,_,_,hf,rfl,?_⟩;simp only[toD,hb];rw[if_pos hc]
   ·cases h
  ·cases h
 ·cases h
theorem Gg(n0:Nat)(st:St):∀(keep:List Nat) (p:Nat) (seen:List Nat),(∀x,x<n0->x∈seen)->∃Uj:Nat->Nat,(canonGo n0 st keep p seen).length=keep.length /\
  (∀(k s:Nat),keep[k]?=some s->∃kv,(canonGo n0 st keep p seen)[k]?=some kv/\Lp n0 st (p+k) s (Uj k) kv/\(claim s kv=true->Uj k ∉ seen)) /\
  (∀(k k' s s':Nat) (kv Pr:KV),keep[k]?=some s->keep[k']?=some s'->(canonGo n0 st keep p seen)[k]?=some kv->(canonGo n0 st keep p seen)[k']?=some Pr->claim s kv=true->claim s' Pr=true->Uj k=Uj k'->k=k')
 | [],p,seen,_=>⟨fun _=>0,rfl,fun k s h=>by simp at h,fun k k' s s' kv Pr h=>by simp at h⟩
 |s :: keep,p,seen,hn=>by
  have core:∀(kv:KV) (i:Nat) (Ml:List Nat),(∀x∈seen,x∈Ml)->(claim s kv=true->i∈Ml/\i ∉ seen)->Lp n0 st p s i kv->canonGo n0 st (s :: keep) p seen=kv :: canonGo n0 st keep (p+1) Ml ->
    ∃Uj:Nat->Nat,(canonGo n0 st (s :: keep) p seen).length=(s :: keep).length /\
    (∀(k s':Nat),(s :: keep)[k]?=some s'->∃kv,(canonGo n0 st (s :: keep) p seen)[k]?=some kv/\Lp n0 st (p+k) s' (Uj k) kv/\(claim s' kv=true->Uj k ∉ seen)) /\
    (∀(k k' s1 s2:Nat) (kv Pr:KV),(s :: keep)[k]?=some s1->(s :: keep)[k']?=some s2->(canonGo n0 st (s :: keep) p seen)[k]?=some kv->(canonGo n0 st (s :: keep) p seen)[k']?=some Pr->claim s1 kv=true->claim s2 Pr=true->Uj k=Uj k'->k=k'):=by
   intro kv i Ml bPL hi bLV heq;obtain⟨Uj,h1,h2,h3⟩:=Gg n0 st keep (p+1) Ml (fun x hx=>bPL x (hn x hx));rw[heq];have aVZ:∀(k s':Nat) (Pr:KV),keep[k]?=some s'->(canonGo n0 st keep (p+1) Ml)[k]?=some Pr->claim s' Pr=true->Uj k ∉ Ml:=by
    intro k s' Pr sV hk hs;obtain⟨bJV,e1,_,e3⟩:=h2 k s' sV;rw[hk]at e1;cases e1;exact e3 hs
   refine⟨fun k=>if k=0 then i else Uj (k-1),by simp[h1],?_,?_⟩
   ·intro k s' hk
    match k with
    |0=>simp at hk;subst hk;exact⟨kv,rfl,by simpa using bLV,fun h=>by simpa using (hi h).2⟩
    |k+1 =>
     simp at hk;obtain⟨Pr,e1,e2,e3⟩:=h2 k s' hk;refine⟨Pr,by simpa using e1,?_,fun h=>?_⟩
     ·simp only[cBR,if_false,cBS];rw[show p+(k+1)=p+1+k by omega];exact e2
     ·simp only[cBR,if_false,cBS];exact fun hm=>e3 h (bPL _ hm)
   ·intro k k' s1 s2 bOR bJV Zz Pt hk aAA hs sV he
    match k,k' with
    |0,0=>rfl
    |0,k'+1 =>
     simp at hk aAA Zz Pt;subst hk;subst Zz;simp at he;exact absurd (hi hs).1 (by rw[he];exact aVZ k' s2 bJV Pt aAA sV)
    |k+1,0 =>
     simp at hk aAA Zz Pt;subst aAA;subst Pt;simp at he;exact absurd (hi sV).1 (by rw[<-he];exact aVZ k s1 bOR Zz hk hs)
    |k+1,k'+1 =>
     simp at hk aAA he Zz Pt;have:=h3 k k' s1 s2 bOR bJV Zz Pt hk aAA hs sV he;omega
  have Fy:canonGo n0 st (s :: keep) p seen=(.any,none) :: canonGo n0 st keep (p+1) seen->_:=core (.any,none) 0 seen (fun _ h=>h) (fun h=>by simp[claim]at h) (.inl rfl);cases hz:bYW 1000000 s with
  |true =>
   cases hv:aOA st (s%1000000)with
   |none=>exact Fy (by simp only[canonGo,hz,cond_true,hv])
   |some q =>
    obtain⟨i,a⟩:=q;cases Zy:seen.elem i with
    |true=>exact Fy (by simp only[canonGo,hz,cond_true,hv,Zy])
    |false =>
     have Hz:i ∉ seen:=by simpa using Zy
     exact core (a,none) i (i :: seen) (fun _ h=>bZE _ h) (fun _=>⟨bZA ..,Hz⟩) (.inr (.inl ⟨hz,hv,rfl,cBN fun kD=>Hz (hn i kD)⟩)) (by simp only[canonGo,hz,cond_true,hv,Zy,cond_false])
  |false =>
  have aHH:∀a,claim s (a,none)=true->False:=by
   intro a h;simp[claim,hz]at h
  cases hf:st.fr (s%1000000)with
  |any=>exact Fy (by simp only[canonGo,hz,cond_false,hf])
  |Lv xs=>exact Fy (by simp only[canonGo,hz,cond_false,hf])
  |v x =>
   cases x with
   |agg cs=>exact core (.v (.agg cs),none) 0 seen (fun _ h=>h) (fun h=>(aHH _ h).elim) (.inr (.inr (.inr (.inr ⟨by rw[hf],by rw[hf];intro i hi;cases hi⟩)))) (by simp only[canonGo,hz,cond_false,hf])
   |one l =>
    cases l with
    |s x=>exact core (.v (.one (.s x)),none) 0 seen (fun _ h=>h) (fun h=>(aHH _ h).elim) (.inr (.inr (.inr (.inr ⟨by rw[hf],by rw[hf];intro i hi;cases hi⟩)))) (by simp only[canonGo,hz,cond_false,hf])
    |rows sz n f=>exact core (.v (.one (.rows sz n f)),none) 0 seen (fun _ h=>h) (fun h=>(aHH _ h).elim) (.inr (.inr (.inr (.inr ⟨by rw[hf],by rw[hf];intro i hi;cases hi⟩)))) (by simp only[canonGo,hz,cond_false,hf])
    |Qn cs=>exact core (.v (.one (.Qn cs)),none) 0 seen (fun _ h=>h) (fun h=>(aHH _ h).elim) (.inr (.inr (.inr (.inr ⟨by rw[hf],by rw[hf];intro i hi;cases hi⟩)))) (by simp only[canonGo,hz,cond_false,hf])
    |Vo k ns=>exact core (.v (.one (.Vo k ns)),none) 0 seen (fun _ h=>h) (fun h=>(aHH _ h).elim) (.inr (.inr (.inr (.inr ⟨by rw[hf],by rw[hf];intro i hi;cases hi⟩)))) (by simp only[canonGo,hz,cond_false,hf])
    |Ui i j=>exact Fy (by simp only[canonGo,hz,cond_false,hf])
    |view i off n =>
     cases Zy:bZF i n0 with
     |false=>exact Fy (by simp only[canonGo,hz,hf,Zy,cond_false])
     |true =>
      have kD:i<n0:=by rw[Nat.blt_eq]at Zy;exact Zy
      exact core (.v (.one (.view i off n)),none) 0 seen (fun _ h=>h) (fun h=>(aHH _ h).elim) (.inr (.inr (.inr (.inr ⟨by rw[hf],by rw[hf];intro j hj;simp[refs,refsV,refsL]at hj;omega⟩)))) (by simp only[canonGo,hz,cond_false,hf,Zy,cond_true])
    |buf i n =>
     cases Zy:seen.elem i with
     |true=>exact Fy (by simp only[canonGo,hz,cond_false,hf,Zy,cond_true])
     |false =>
      have Hz:i ∉ seen:=by simpa using Zy
      exact core (.v (.one (.buf p n)),st.hp i) i (i :: seen) (fun _ h=>bZE _ h) (fun _=>⟨bZA ..,Hz⟩) (.inr (.inr (.inl ⟨n,rfl,hf⟩))) (by simp only[canonGo,hz,hf,Zy,cond_false])
    |ptr i off =>
     match off with
     |0 =>
      cases Zy:seen.elem i with
      |true=>exact Fy (by simp only[canonGo,hz,cond_false,hf,Zy,cond_true])
      |false =>
       have Hz:i ∉ seen:=by simpa using Zy
       exact core (.v (.one (.ptr p 0)),st.hp i) i (i :: seen) (fun _ h=>bZE _ h) (fun _=>⟨bZA ..,Hz⟩) (.inr (.inr (.inr (.inl ⟨rfl,hf⟩)))) (by simp only[canonGo,hz,hf,Zy,cond_false])
     |off+1=>exact Fy (by simp only[canonGo,hz,cond_false,hf])
theorem Je(t:Nat):∀(keep:List Nat) (l:List KV),slotGo t keep l=.any\/∃(k s:Nat) (kv:KV),keep[k]?=some s/\t=s%1000000/\l[k]?=some kv/\slotGo t keep l=kv.1
 | [],_=>.inl (by simp[slotGo])
 |_ :: _,[]=>.inl (by simp[slotGo])
 |s :: keep,kv :: l=>by
  simp only[slotGo];cases hb:bYU t (s%1000000)with
  |true=>exact .inr ⟨0,s,kv,rfl,bZI hb,rfl,rfl⟩
  |false =>
   rcases Je t keep l with h |⟨k,s',Pr,h1,h0,h2,h3⟩
   ·exact .inl h
   ·exact .inr ⟨k+1,s',Pr,by simpa using h1,h0,by simpa using h2,h3⟩
theorem Ov:∀(l:List KV) (i:Nat) (b:kQ),blkGo i l=some b->∃kv,l[i]?=some kv/\kv.2=some b
 | [],i,b,h=>by simp[blkGo]at h
 |kv :: l,0,b,h=>⟨kv,rfl,h⟩
 |kv :: l,i+1,b,h=>by
  obtain⟨Pr,h1,h2⟩:=Ov l i b h;exact⟨Pr,by simpa using h1,h2⟩
theorem Sm:∀(l:List KV) (i:Nat) (kv:KV),l[i]?=some kv->blkGo i l=kv.2
 | [],i,kv,h=>by simp at h
 |bTH :: l,0,kv,h=>by simp at h;subst h;rfl
 |bTH :: l,i+1,kv,h=>Sm l i kv (by simpa using h)
theorem Jl(st:St):∀(n i:Nat),(canonIO st n i).length=n
 |0,_=>rfl
 |n+1,i=>by simp[canonIO,Jl st n]
theorem Jm(st:St):∀(n i k:Nat) (r:List KV),k<n->blkGo k (canonIO st n i ++ r)=st.hp (i+k)
 |0,_,_,_,h=>by omega
 |n+1,i,0,r,_=>rfl
 |n+1,i,k+1,r,h=>by
  simp only[canonIO,cAM,blkGo];rw[Jm st n (i+1) k r (by omega)];congr 1;omega
theorem Gf(st:St):∀(n i k:Nat) (r:List KV),blkGo (n+k) (canonIO st n i ++ r)=blkGo k r
 |0,_,k,r=>by simp[canonIO]
 |n+1,i,k,r=>by
  rw[show n+1+k=(n+k)+1 by omega];simp only[canonIO,cAM,blkGo];exact Gf st n (i+1) k r
theorem Ip:∀{n i:Nat},i<n->i∈below n
 |n+1,i,h=>by
  unfold below
  by_cases hi:i=n
  ·subst hi;exact bZA ..
  ·exact bZE _ (Ip (by omega))
theorem Ij{ρ:Nat->Nat}{al:Nat->Prop}{st:St}{a:Act}{w:World}(h:jJ E X w0 ρ al st.fr st.hp a w)(keep:List Nat) :
  ∃ρ',jJ E X w0 ρ' (fun i=>i<(mk E.n0 keep (canon E.n0 keep st)).n) (mk E.n0 keep (canon E.n0 keep st)).fr (mk E.n0 keep (canon E.n0 keep st)).hp a w:=by
 obtain⟨n0,Di⟩:∃n0,n0=E.n0:=⟨_,rfl⟩;rw[<-Di];obtain⟨Uj,h1,h2,h3⟩:=Gg n0 st keep n0 (below n0) (fun x hx=>Ip hx);obtain⟨C,hC⟩:∃C,C=canonGo n0 st keep n0 (below n0):=⟨_,rfl⟩;have bBT:canon n0 keep st=canonIO st n0 0 ++ C:=by rw[hC];rfl
 rw[<-hC]at h1 h2 h3;rw[bBT];have aNN:(canonIO st n0 0 ++ C).drop n0=C:=by
  have:=cBL (l₁:=canonIO st n0 0) (l₂:=C);rwa [Jl]at this
 obtain⟨wZ,Un⟩:∃wZ,wZ=(mk n0 keep (canonIO st n0 0 ++ C)).hp:=⟨_,rfl⟩;rw[<-Un];have Rv:∀q,q<n0->wZ q=st.hp q:=fun q hq=>by
  rw[Un];have:=Jm st n0 0 q C hq;rw[bYV]at this;exact this
 have Qg:∀k,wZ (n0+k)=blkGo k C:=fun k=>by rw[Un];exact Gf st n0 0 k C
 have bBW:∀t,(mk n0 keep (canonIO st n0 0 ++ C)).fr t=slotGo t keep C:=fun t=>by
  show slotGo t keep ((canonIO st n0 0 ++ C).drop n0)=_;rw[aNN]
 have hn:(mk n0 keep (canonIO st n0 0 ++ C)).n=n0+keep.length:=rfl;obtain⟨aJN,bFK⟩:∃aJN:Nat->Nat,aJN=fun q=>if q<n0 then q else Uj (q-n0):=⟨_,rfl⟩
 have aQT:∀q,q<n0->aJN q=q:=fun q hq=>by rw[bFK];simp only;rw[if_pos hq]
 have aJT:∀k,aJN (n0+k)=Uj k:=fun k=>by rw[bFK];simp only;rw[aP];congr 1;omega
 have aJQ:∀(k:Nat) (b:kQ),blkGo k C=some b->k<keep.length/\st.hp (Uj k)=some b/\n0<=Uj k/\∃kv,C[k]?=some kv/\kv.2=some b:=by
  intro q b hq;obtain⟨kv,hk,hb⟩:=Ov _ q b hq;have kD:q<keep.length:=by have:=aU hk;omega
  obtain⟨s,hs⟩:=bD kD;obtain⟨Pr,e1,e2,e3⟩:=h2 q s hs;rw[hk]at e1;cases e1;refine⟨kD,?_,?_,kv,hk,hb⟩
  ·rcases e2 with rfl |⟨_,_,h9,_⟩ |⟨n,rfl,_⟩ |⟨rfl,_⟩ |⟨rfl,_⟩
   ·cases hb
   ·rw[h9]at hb;cases hb
   ·exact hb
   ·exact hb
   ·cases hb
  ·have:=e3 (by unfold claim;rw[hb];rfl);rcases bZJ (Uj q) n0 with h4 |h4
   ·exact absurd (Ip h4) this
   ·exact h4
 have Yh:∀(q:Nat) (b:kQ),wZ q=some b->st.hp (aJN q)=some b/\q<n0+keep.length:=by
  intro q b hq;rcases bZJ q n0 with h4 |h4
  ·rw[Rv q h4]at hq;exact⟨by rw[aQT q h4];exact hq,by omega⟩
  ·obtain⟨k,rfl⟩:=bZY h4;rw[Qg]at hq;obtain⟨h5,h6,_⟩:=aJQ k b hq;exact⟨by rw[aJT];exact h6,by omega⟩
 have tP:∀b,XO X (fun q=>ρ (aJN q)) wZ b->XO X ρ st.hp b:=by
  rintro b (hb |⟨q,bl,h4,h5⟩)
  ·exact .inl hb
  ·exact .inr ⟨aJN q,bl,(Yh q bl h4).1,h5⟩
 have hl:iJ (XO X ρ st.hp) w (XO X (fun q=>ρ (aJN q)) wZ) w:=⟨bYT _,fun b _ hx=>⟨rfl,fun hb=>hx (tP b hb)⟩⟩;have key:∀t,xE (fun q=>ρ (aJN q)) wZ (XO X (fun q=>ρ (aJN q)) wZ) w (slotGo t keep C) (a.tmps.getD t undef)/\∀i∈refs (slotGo t keep C),i<n0+keep.length:=by
  intro t;rcases Je t keep C with he |⟨k,s,kv,hk,bHS,bIA,he⟩
  ·rw[he];exact⟨trivial,by simp[refs]⟩
  ·rw[he];obtain⟨Pr,e1,e2,e3⟩:=h2 k s hk;rw[bIA]at e1;cases e1;have kD:=aU hk;have hr:=h.fr t;have bFX:=Sm _ k kv bIA;unfold Lp at e2;rw[<-bHS]at e2;rcases e2 with rfl |⟨hz,hfz,h9,bRB⟩ |⟨n,rfl,hf⟩ |⟨rfl,hf⟩ |⟨rfl,hf⟩
   ·exact⟨trivial,by simp[refs]⟩
   ·obtain⟨n,sz,f,hf,ha,hd⟩:=aIC hfz;rw[hf]at hr;have aJV:claim s kv=true:=by unfold claim;rw[hz,ha];simp
    have bUG:=Hd h (u:=[(Uj k,none)]) (fun p hp=>by simp at hp;rw[hp]) hr (fun i hi=>by simp[refs,refsV,refsL]at hi;rw[hi];simp) hd;rw[ha];refine⟨mI.later (d:=.rows sz n f) ⟨bYT _,fun b _ hx=>⟨rfl,fun hb=>hx ?_⟩⟩ bUG,by intro i hi;cases hi⟩;rcases hb with hb |⟨q,bl,h4,h5⟩
    ·exact .inl hb
    ·have h6:=Yh q bl h4;refine .inr ⟨aJN q,bl,?_,h5⟩;simp only[applyUps];rw[gB _ _ ?_]
     ·exact h6.1
     ·intro hq;rcases bZJ q n0 with h7 |h7
      ·rw[aQT q h7]at hq;omega
      ·obtain⟨k',rfl⟩:=bZY h7;rw[Qg]at h4;obtain⟨h8,_,_,Pr,aAA,aNG⟩:=aJQ k' bl h4;obtain⟨s',sV⟩:=bD h8;rw[aJT]at hq;have:=h3 k' k s' s Pr kv sV hk aAA bIA (by unfold claim;rw[aNG];rfl) aJV hq;subst this;rw[bIA]at aAA;cases aAA;rw[h9]at aNG;cases aNG
   ·rw[hf]at hr;obtain⟨cap,hv,Dh,hc,aWG⟩:=hr;refine⟨⟨cap,by simp only[aJT];exact hv,Dh,fun blk k1 ns hb Kb=>?_,fun blk cs hb Kb=>?_⟩,?_⟩
    ·rw[Qg,bFX]at hb;have:=hc blk k1 ns hb Kb;simp only[aJT];exact this
    ·rw[Qg,bFX]at hb;have:=aWG blk cs hb Kb;simp only[aJT];exact this
    ·intro i hi;simp[refs,refsV,refsL]at hi;omega
   ·rw[hf]at hr;refine⟨?_,?_⟩
    ·show _=_;simp only[aJT];exact hr
    ·intro i hi;simp[refs,refsV,refsL]at hi;omega
   ·refine⟨xE.later (al:=fun i=>i<n0) hl (fun i hi=>⟨by simp only[aQT i hi],fun b' pW=>⟨b',by rw[<-Rv i hi];exact pW,sameShape.refl _,rfl⟩⟩) hf hr,fun i hi=>?_⟩;have:=hf i hi;omega
 refine⟨fun q=>ρ (aJN q),{ fr:=fun t=>by rw[bBW];exact(key t).1,sz:=h.sz,nod:=h.nod,blk:=?_,inj:=?_,alh:=?_,alr:=fun t i hi=>by rw[bBW]at hi;exact(key t).2 i hi,below:=h.below,x0:=h.x0,glob:=h.glob,mg:=h.mg,al0:=fun i hi=>by show i<n0+keep.length;omega,wL:=fun i hi=>by simp only[aQT i (by omega)];exact h.wL i hi }⟩
 ·intro q b hq;have hb:=(Yh q b hq).1;refine⟨?_,(h.blk _ b hb).2.later hl rfl⟩;rcases bZJ q n0 with h4 |h4
  ·have:=(h.blk _ b hb).1;simp only[aQT q h4]at this ⊢;exact this
  ·obtain⟨k,rfl⟩:=bZY h4;rw[Qg]at hq;obtain⟨_,_,h6,_⟩:=aJQ k b hq;exact .inl ((h.blk _ b hb).1.new (by rw[aJT];omega))
 ·intro q q' b b' hq aFF he;have hb:=(Yh q b hq).1;have pW:=(Yh q' b' aFF).1;have aTG:=h.inj _ _ b b' hb pW he;rcases bZJ q n0 with h4 |h4
  ·rcases bZJ q' n0 with h5 |h5
   ·rw[aQT q h4,aQT q' h5]at aTG;exact aTG
   ·obtain⟨k,rfl⟩:=bZY h5;rw[Qg]at aFF;obtain⟨_,_,h6,_⟩:=aJQ k b' aFF;rw[aQT q h4,aJT]at aTG;omega
  ·obtain⟨k,rfl⟩:=bZY h4;rw[Qg]at hq;obtain⟨_,_,h6,kv,hk,bVB⟩:=aJQ k b hq;rcases bZJ q' n0 with h5 |h5
   ·rw[aQT q' h5,aJT]at aTG;omega
   ·obtain⟨k',rfl⟩:=bZY h5;rw[Qg]at aFF;obtain⟨_,_,_,Pr,aAA,aNG⟩:=aJQ k' b' aFF;rw[aJT,aJT]at aTG;obtain⟨s1,Zz⟩:=bD (l:=keep) (i:=k) (by have:=aU hk;omega);obtain⟨s2,Pt⟩:=bD (l:=keep) (i:=k') (by have:=aU aAA;omega);have:=h3 k k' s1 s2 kv Pr Zz Pt hk aAA (by unfold claim;rw[bVB];rfl) (by unfold claim;rw[aNG];rfl) aTG;omega
 ·intro q b hq;exact(Yh q b hq).2
def exitOf:Ex->Exit
 | .normal=>.normal
 | .exit id=>.exit id
 | .ret=>.ret
def KQ{R:Type}(E:Env)(X:Nat->Prop)(w0:Old)(K:Ex->St->Option R)(Q:Exit->Act->World->Prop)(r:R):Prop :=
 ∀(ex:Ex) (st:St) (ρ:Nat->Nat) (a:Act) (w:World),K ex st=some r->jJ E X w0 ρ (fun i=>i<st.n) st.fr st.hp a w->Q (exitOf ex) a w
theorem Ba{R:Type}{c:Code}{keep:List Nat}{r:R}{Q:Exit->Act->World->Prop}{K:Ex->St->Option R}(bMX:KQ E X w0 K Q r)
  (ih:∀(st:St) (K:Ex->St->Option R) (Q:Exit->Act->World->Prop) (ρ:Nat->Nat) (a:Act) (w:World),jJ E X w0 ρ (fun i=>i<st.n) st.fr st.hp a w->evalCode E c st K=some r->KQ E X w0 K Q r->c.wp P Q a w) :
  ∀(n:Nat) (l:List KV) (ρ:Nat->Nat) (a:Act) (w:World),iter (fun rec l=>evalCode E c (mk E.n0 keep l) fun ex gD=>match ex with
    | .normal=>rec (canon E.n0 keep gD)
    | .exit i=>K (.exit i) gD
    | .ret=>K .ret gD) n l=some r->jJ E X w0 ρ (fun i=>i<(mk E.n0 keep l).n) (mk E.n0 keep l).fr (mk E.n0 keep l).hp a w->Code.rounds P c Q n a w
 |0,l,ρ,a,w,h,_=>by cases h
 |n+1,l,ρ,a,w,h,hs=>by
  rw[rounds_succ];refine ih (mk E.n0 keep l) _ _ ρ a w hs h ?_;intro ex gD ρ' a' w' he sV;cases ex with
  |normal =>
   obtain⟨ρ2,Pt⟩:=Ij sV keep;exact Ba bMX ih n _ ρ2 a' w' he Pt
  |exit i=>exact bMX (.exit i) gD ρ' a' w' he sV
  |ret=>exact bMX .ret gD ρ' a' w' he sV
theorem aOB{α R:Type}{G:(α->Option R)->α->Option R}{x:α}{r:R}(h:fix G x=some r):∃n,iter G n x=some r:=by
 unfold fix at h;split at h
 ·rename_i hex;cases h;exact Classical.choose_spec hex
 ·cases h
theorem aCG(hT:oS P E.T)(hC:kO P E)(hm:P.follows .mixedOrders=true){R:Type}(r:R):∀(c:Code) (st:St) (K:Ex->St->Option R) (Q:Exit->Act->World->Prop) (ρ:Nat->Nat) (a:Act) (w:World),
  jJ E X w0 ρ (fun i=>i<st.n) st.fr st.hp a w->evalCode E c st K=some r->KQ E X w0 K Q r->c.wp P Q a w:=by
 intro c
 induction c with
 |skip=>intro st K Q ρ a w hs he hK;exact wp_skip (hK .normal st ρ a w he hs)
 |label l=>intro st K Q ρ a w hs he hK;exact wp_label (hK .normal st ρ a w he hs)
 |exit id=>intro st K Q ρ a w hs he hK;exact wp_exit (hK (.exit id) st ρ a w he hs)
 |ret=>intro st K Q ρ a w hs he hK;exact wp_ret (hK .ret st ρ a w he hs)
 |region id ops draw =>
  intro st K Q ρ a w hs he hK;unfold evalCode at he;exact Ts hT hC hm hs he Q (fun gD ρ' a' w' hk sV=>hK .normal _ ρ' a' w' hk sV)
 |seq x y bHN bDQ =>
  intro st K Q ρ a w hs he hK;unfold evalCode at he;refine wp_seq (bHN st _ _ ρ a w hs he ?_);intro ex gD ρ' a' w' hk sV;cases ex with
  |normal =>
   simp only at hk;split at hk
   ·rename_i keep _;obtain⟨ρ2,Pt⟩:=Ij sV keep;unfold Cy at hk;exact bDQ _ K Q ρ2 a' w' Pt hk hK
   ·exact bDQ gD K Q ρ' a' w' sV hk hK
  |exit i=>exact hK (.exit i) gD ρ' a' w' hk sV
  |ret=>exact hK .ret gD ρ' a' w' hk sV
 |cond c x y bHN bDQ =>
  intro st K Q ρ a w hs he hK;unfold evalCode at he;split at he
  ·rename_i s;split at he
   ·rename_i t ht;have hr:=hs.fr s;rw[ht]at hr;have hv:a.eval (.tmp s)=.bool t:=hr.1;have e0:Ck st.fr s (Df (.bool t))=st.fr:=aDI st.fr s t ht;refine wp_cond hv ?_;cases t with
    |true=>simp only[cond_true,e0]at he;exact bHN _ K Q ρ a w hs he hK
    |false=>simp only[cond_false,e0]at he;exact bDQ _ K Q ρ a w hs he hK
   ·cases he
  ·rename_i t;refine wp_cond (t:=t) rfl ?_;cases t with
   |true=>simp only[cond_true]at he;exact bHN _ K Q ρ a w hs he hK
   |false=>simp only[cond_false]at he;exact bDQ _ K Q ρ a w hs he hK
  ·cases he
 |block id c ih =>
  intro st K Q ρ a w hs he hK;unfold evalCode at he;refine wp_block (ih st _ _ ρ a w hs he ?_);intro ex gD ρ' a' w' hk sV;cases ex with
  |normal=>exact hK .normal gD ρ' a' w' hk sV
  |ret=>exact hK .ret gD ρ' a' w' hk sV
  |exit i =>
   simp only[exitOf,Exit.inBlock];simp only at hk;cases hb:bYU i id with
   |true =>
    rw[hb]at hk;rw[if_pos (bZI hb)];exact hK .normal gD ρ' a' w' hk sV
   |false =>
    rw[hb]at hk;rw[if_neg (cAX hb)];exact hK (.exit i) gD ρ' a' w' hk sV
 |loop c ih =>
  intro st K Q ρ a w hs he hK;unfold evalCode at he;obtain⟨ρ2,Pt⟩:=Ij hs (E.keep (keyOf c));split at he
  ·rename_i n _;exact wp_loop_rounds n (Ba hK ih n _ ρ2 a w he Pt)
  ·obtain⟨n,hn⟩:=aOB he;exact wp_loop_rounds n (Ba hK ih n _ ρ2 a w hn Pt)
 |rangeFunc f ps x y _ _=>intro st K Q ρ a w hs he hK;unfold evalCode at he;cases he
 |scope c ih =>
  intro st K Q ρ a w hs he hK;unfold evalCode at he;refine wp_scope_straight (ih st K _ ρ a w hs he ?_);intro ex gD ρ' a' w' hk sV;have:=hK ex gD ρ' a' w' hk sV;cases ex <;> exact this
 |goto l=>intro st K Q ρ a w hs he hK;unfold evalCode at he;cases he
 |refuse bOI=>intro st K Q ρ a w hs he hK;unfold evalCode at he;cases he
end
end AI
end Go.Proofs.YtplagoepbghhpaaGreatDoor
end
