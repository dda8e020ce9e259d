/- Contracts of functions (their ground), for the claim on TurnPeriod. -/
import Derived.WalkKit
import Derived.Laws.CopyOwn
import Derived.LoopN
import Derived.Laws.StructEq
import Derived.Scope
set_option linter.unusedVariables false
set_option linter.unusedSimpArgs false
noncomputable section
open Go.IntKind(i8 i16 i32 i64 u8 u16 u32 u64)
open List renaming map_cons->bLQ,getElem?_map->bLV,getElem?_take_of_lt->bLW,mem_cons_self->bLY,mem_of_getElem?->bMA,getElem?_drop->bMD,getElem?_eq_getElem->bMH,mem_singleton->bMI,map_nil->bMJ,mem_cons_of_mem->bMK,map_toArray->bMM,getElem?_of_mem->bMP,map_append->bMQ,mem_append->bMT,length_append->bMU,mem_cons->bMX,mapM_cons->bMY,range->bNB,getElem?_append_left->bNC,getElem?_append_right->bND,size_toArray->bNF,take_left->bNG,map_congr_left->bNH,cons_append->bNJ,length_map->bNK,getD->bNL,append_assoc->bNM,getElem?_eq_none->bNN,getElem?_cons_succ->bNO,Pairwise->bNQ,mem_range->bNT,replicate->bNU,eq_nil_of_length_eq_zero->bOG,length_take->bOH,mem_append_right->bOI,drop_left->bOJ,flatMap_def->bOM
open Nat renaming le_refl->bLR,beq->bLS,zero_add->bLT,ble->bLU,mul_one->bMB,blt->bMC,eq_of_beq_eq_true->bMF,lt_or_ge->bMG,add_mul->bML,le_trans->bMN,lt_of_lt_of_le->bMR,add_zero->bMS,exists_eq_add_of_le->bMW,mul_le_mul_right->bNE,le_of_ble_eq_true->bNP,ne_of_beq_eq_false->bNV,le_mul_of_pos_right->bOA,mul_le_mul_left->bOF,add_one_ne_zero->bOO,add_sub_cancel->bOP
open Bool renaming and_eq_true->bLX,not_eq_true'->bMZ,or_eq_true->bNA,not_true->bNR,false_or->bNS
open Option renaming bind_assoc->bLZ,map_some->bME,map_eq_some_iff->bMV,bind_some->bNI,bind_eq_bind->bNW,pure_def->bNX,bind_eq_some_iff->bNY,map_none->bOC,getD_some->bON
open Int renaming mul_le_mul_of_nonneg_right->bOB
namespace Go.Proofs.YtplagoepbghhpaaGreatDoor
theorem aU{α:Sort _}{c:Prop}[Decidable c]{a b:α}(h:c:=by omega):ite c a b=a:=if_pos h
theorem aY{α:Sort _}{c:Prop}[Decidable c]{a b:α}(h:¬c:=by omega):ite c a b=b:=if_neg h
theorem cN{a n:Nat}(h:0<a:=by omega):0<a^n:=Nat.pow_pos h
theorem fD{b m n:Nat}(h:0<b:=by omega)(h':m<=n:=by omega):b^m<=b^n:=Nat.pow_le_pow_right h h'
namespace M
open Go
theorem Dg(n:Int):i64.wrap n=if n%18446744073709551616>=9223372036854775808 then n%18446744073709551616-18446744073709551616 else n%18446744073709551616:=by
 show(if(true&&decide (n%18446744073709551616>=9223372036854775808))=true then n%18446744073709551616-18446744073709551616 else n%18446744073709551616)=_;simp only[Bool.true_and,decide_eq_true_eq]
theorem wrap_i64{n:Int}(h:-9223372036854775808<=n:=by omega)(h':n<9223372036854775808:=by omega):i64.wrap n=n:=by
 rw[Dg];split <;> omega
theorem eE(n:Int):u64.wrap n=n%18446744073709551616:=by
 show(if(false&&decide (n%18446744073709551616>=9223372036854775808))=true then n%18446744073709551616-18446744073709551616 else n%18446744073709551616)=_;simp
theorem wrap_u64{n:Int}(h:0<=n:=by omega)(h':n<18446744073709551616:=by omega):u64.wrap n=n:=by
 rw[eE];omega
theorem wrap_u32(n:Int):u32.wrap n=n%4294967296:=by
 show(if(false&&decide (n%4294967296>=2147483648))=true then n%4294967296-4294967296 else n%4294967296)=_;simp
end M
namespace AI
open Go Go.RowKit
def leB:Int->Int->Bool
 | .ofNat m,.ofNat n=>bLU m n
 | .negSucc _,.ofNat _=>true
 | .ofNat _,.negSucc _=>false
 | .negSucc m,.negSucc n=>bLU n m
theorem Fh(a b:Int):leB a b=true↔a<=b:=by
 cases a <;> cases b <;> simp only[leB,Nat.ble_eq,Bool.false_eq_true,true_iff,false_iff,Int.ofNat_eq_natCast] <;> omega
instance (priority:=2000) decLeI (a b:Int):Decidable (a<=b):=match h:leB a b with
 |true=>isTrue ((Fh a b).1 h)
 |false=>isFalse fun h'=>by rw[(Fh a b).2 h']at h;cases h
instance (priority := 2000) decLtI (a b : Int) : Decidable (a < b) := match h : leB b a with
  | true => isFalse fun h' => by have := (Fh b a).1 h; omega
  | false => isTrue (by have h1 : ¬ b ≤ a := fun h' => by rw [(Fh b a).2 h'] at h; cases h
                        omega)
inductive S where
 |sc (v:Value)
 |ints (k:IntKind) (ns:List Int)
 |bot
inductive L where
 |s (x:S)
 |rows (sz n:Nat) (f:Nat->List S)
 |Jt (cs:List S)
 |Nw (k:IntKind) (ns:List Int)
 |ptr (id off:Nat)
 |Ms (id i:Nat)
 |buf (id n:Nat)
 |view (id off n:Nat)
inductive V where
 |one (l:L)
 |agg (cs:List S)
inductive A where
 |v (x:V)
 |Ix (xs:List V)
 |any
inductive qU where
 |ints (k:IntKind) (ns:List Int)
 |cells (cs:List S)
structure iM where
 e:TypeId
 cont:qU
structure St where
 fr:Nat->A
 hp:Nat->Option iM
 n:Nat
inductive D where
 |s (x:S)
 |rows (sz n:Nat) (f:Nat->List S)
 |agg (cs:List S)
 |own (e:TypeId) (k:IntKind) (ns:List Int)
 |io (e:TypeId) (k:IntKind) (ns:List Int) (off n:Nat)
 |back (i off n:Nat)
inductive TK where
 |bool
 |int (k:IntKind)
 |float (k:FloatKind)
 |other
 |struct (fs:List (Nat×Nat×Bool))
 |arr (len nQ:Nat) (eagg:Bool)
 |slice (elem:TypeId)
 |str
structure TI where
 size:Nat
 bytes:Nat
 zero:List Value
 kind:TK
def TK.isAgg:TK->Bool
 | .struct _=>true
 | .arr _ _ _=>true
 |_=>false
abbrev yF(v:Value):A:=.v (.one (.s (.sc v)))
abbrev xO{α:Type}(f:Nat->α)(d:Nat)(a:α):Nat->α:=fun i=>bif bLS i d then a else f i
def bitsI0(op:BinOp)(k:IntKind)(x y:Int):Int :=
 match op with
 | .and=>k.wrap (BitVec.ofInt k.bits x &&& BitVec.ofInt k.bits y).toNat
 | .or=>k.wrap (BitVec.ofInt k.bits x |||BitVec.ofInt k.bits y).toNat
 | .xor=>k.wrap (BitVec.ofInt k.bits x ^^^ BitVec.ofInt k.bits y).toNat
 |_=>k.wrap (BitVec.ofInt k.bits x &&& ~~~(BitVec.ofInt k.bits y)).toNat
theorem Rh:∃f:BinOp->IntKind->Int->Int->Int,f=bitsI0:=⟨_,rfl⟩
def dX:BinOp->IntKind->Int->Int->Int:=Classical.choose Rh
theorem pA:dX=bitsI0:=Classical.choose_spec Rh
def binK{R:Type}(op:BinOp)(x y:Value)(K:Value->Option R):Option R :=
 match x,y with
 | .int k a,.int k' b =>
  match op with
  | .shl=>if b<0 then none else K (.int k (k.wrap (a*((2^(min b.toNat k.bits):Nat):Int))))
  | .shr=>if b<0 then none else K (.int k (a/((2^(min b.toNat k.bits):Nat):Int)))
  | .add=>if k=k' then K (.int k (k.wrap (a+b)))else none
  | .sub=>if k=k' then K (.int k (k.wrap (a-b)))else none
  | .mul=>if k=k' then K (.int k (k.wrap (a*b)))else none
  | .quo=>if k=k' then(if b=0 then none else K (.int k (k.wrap (a.tdiv b))))else none
  | .rem=>if k=k' then(if b=0 then none else K (.int k (a.tmod b)))else none
  | .and=>if k=k' then K (.int k (dX .and k a b))else none
  | .or=>if k=k' then K (.int k (dX .or k a b))else none
  | .xor=>if k=k' then K (.int k (dX .xor k a b))else none
  | .andNot=>if k=k' then K (.int k (dX .andNot k a b))else none
  | .eql=>if k=k' then K (.bool (a==b))else none
  | .neq=>if k=k' then K (.bool (a !=b))else none
  | .lss=>if k=k' then K (.bool (decide (a<b)))else none
  | .leq=>if k=k' then K (.bool (decide (a<=b)))else none
  | .gtr=>if k=k' then K (.bool (decide (b<a)))else none
  | .geq=>if k=k' then K (.bool (decide (b<=a)))else none
 | .float k a,.float k' b =>
  match op with
  | .add=>if k=k' then(k.format.add a b).bind fun r=>K (.float k r)else none
  | .sub=>if k=k' then(k.format.sub a b).bind fun r=>K (.float k r)else none
  | .mul=>if k=k' then(k.format.mul a b).bind fun r=>K (.float k r)else none
  | .quo=>if k=k' then(k.format.div a b).bind fun r=>K (.float k r)else none
  | .eql=>if k=k' then K (.bool (k.format.order a b==some .eq))else none
  | .neq=>if k=k' then K (.bool (k.format.order a b !=some .eq))else none
  | .lss=>if k=k' then K (.bool (k.format.order a b==some .lt))else none
  | .leq=>if k=k' then K (.bool (k.format.order a b==some .lt||k.format.order a b==some .eq))else none
  | .gtr=>if k=k' then K (.bool (k.format.order a b==some .gt))else none
  | .geq=>if k=k' then K (.bool (k.format.order a b==some .gt||k.format.order a b==some .eq))else none
  |_=>none
 | .bool a,.bool b =>
  match op with
  | .eql=>K (.bool (a==b))
  | .neq=>K (.bool (a !=b))
  |_=>none
 |_,_=>none
def boolT(t:Option TI)(a:Value):Bool:=match a with
 | .bool _=>match t with
  |some ⟨_,_,_,.bool⟩=>true
  |_=>false
 |_=>true
def unK{R:Type}(op:UnOp)(x:Value)(K:Value->Option R):Option R :=
 match op,x with
 | .neg,.int k n=>K (.int k (k.wrap (0-n)))
 | .xor,.int k n=>K (.int k (dX .xor k (if k.signed then -1 else k.max) n))
 | .neg,.float k b=>K (.float k (Op.negFloat k b))
 | .not,.bool b=>K (.bool (!b))
 |_,_=>none
def convK{R:Type}(dst:TK)(x:Value)(K:Value->Option R):Option R :=
 match dst,x with
 | .int k,.int _ n=>K (.int k (k.wrap n))
 | .float k,.int _ n=>K (.float k (k.nearest n))
 | .int k,.float s b=>((s.decode b).toInt .zero).bind fun n=>if k.min<=n/\n<=k.max then K (.int k n)else none
 | .float k,.float s b=>if s=k then K (.float k b)else none
 |_,_=>none
def refsL:L->List Nat
 | .ptr id _=>[id]
 | .Ms id _=>[id]
 | .buf id _=>[id]
 | .view id _ _=>[id]
 |_=>[]
def refsV:V->List Nat
 | .one l=>refsL l
 | .agg _=>[]
def refs:A->List Nat
 | .v x=>refsV x
 | .Ix xs=>xs.flatMap refsV
 | .any=>[]
def cellsOf(hp:Nat->Option iM):A->Option (List S×List (Nat×Option iM))
 | .v (.agg cs)=>some (cs,[])
 | .v (.one (.s x))=>some ([x],[])
 | .v (.one (.buf id _))=>match hp id with
  |some ⟨_,.ints k ns⟩=>some ([.ints k ns],[(id,none)])
  |_=>none
 | .v (.one (.view id off n))=>match hp id with
  |some ⟨_,.ints k ns⟩=>some ([.ints k ((ns.drop off).take n)],[(id,none)])
  |_=>none
 |_=>none
def toD(hp:Nat->Option iM):A->Option D
 | .v (.agg cs)=>some (.agg cs)
 | .v (.one (.s x))=>some (.s x)
 | .v (.one (.rows sz n f))=>some (.rows sz n f)
 | .v (.one (.buf id n))=>match hp id with
  |some ⟨_,.ints k ns⟩=>some (.s (.ints k ns))
  |some ⟨_,.cells cs⟩=>if n*(cs.length/n)=cs.length/\0<n then some (.rows (cs.length/n) n fun i=>(cs.drop (i*(cs.length/n))).take (cs.length/n))else none
  |none=>none
 | .v (.one (.view id off n))=>match hp id with
  |some ⟨_,.ints k ns⟩=>some (.s (.ints k ((ns.drop off).take n)))
  |_=>none
 |_=>none
def setAt(cs:List S)(off:Nat)(new:List S):List S:=cs.take off ++ (new ++ cs.drop (off+new.length))
def fillK{R:Type}(hp:Nat->Option iM)(place:Nat->Option (Nat×Nat))(ev:Operand->A):List (Nat×Operand)->List S->List (Nat×Option iM)->(List S->List (Nat×Option iM)->Option R)->Option R
 | [],cs,aHG,K=>K cs aHG
 | (i,x) :: rest,cs,aHG,K =>
  match place i,cellsOf hp (ev x)with
  |some (off,size),some (new,u)=>if new.length=size/\off+new.length<=cs.length then fillK hp place ev rest (setAt cs off new) (aHG ++ u) K else none
  |_,_=>none
def partOf(ti:TI)(cs:List S)(off:Nat):Option V :=
 if _g:ti.kind.isAgg=true then(if _h:off+ti.size<=cs.length then some (.agg ((cs.drop off).take ti.size))else none)
 else match cs[off]? with
  |some c=>some (.one (.s c))
  |none=>none
def allInts(k:IntKind):List S->Option (List Int)
 | []=>some []
 | .sc (.int k' n) :: r=>if _h:k=k' then(allInts k r).map (n :: ·)else none
 |_ :: _=>none
def intsOf(hp:Nat->Option iM)(k:IntKind):A->Option (List Int)
 | .v (.one (.s (.ints k' ns)))=>if _h:k=k' then some ns else none
 | .v (.one (.s (.sc (.slice none 0 0))))=>some []
 | .v (.one (.buf id _))=>match hp id with
  |some ⟨_,.ints k' ns⟩=>if _h:k=k' then some ns else none
  |_=>none
 | .v (.one (.view id off n))=>match hp id with
  |some ⟨_,.ints k' ns⟩=>if _h:k=k' then some ((ns.drop off).take n)else none
  |_=>none
 |_=>none
def room:Int:=8796093022208
def takeIn(keep:Bool)(id:Nat):D->V×List (Nat×Option iM)
 | .s x=>(.one (.s x),[])
 | .rows sz n f=>(.one (.rows sz n f),[])
 | .agg cs=>(.agg cs,[])
 | .own e k ns=>bif keep then(.one (.buf id ns.length),[(id,some ⟨e,.ints k ns⟩)])else(.one (.s (.ints k ns)),[])
 | .io _ _ _ _ _=>(.one (.s .bot),[])
 | .back i off n=>(.one (.view i off n),[])
def takeAll(keep:Bool)(id:Nat):List D->List V×List (Nat×Option iM)
 | []=>([],[])
 |d :: r=>((takeIn keep id d).1 :: (takeAll keep (id+1) r).1,(takeIn keep id d).2 ++ (takeAll keep (id+1) r).2)
def Eu:S->Bool
 | .ints _ _=>true
 | .bot=>true
 | .sc (.slice (some _) _ _)=>true
 |_=>false
def shares:D->Bool
 | .s x=>Eu x
 | .rows _ _ _=>true
 | .agg cs=>cs.any Eu
 | .own _ _ _=>false
 | .io _ _ _ _ _=>true
 | .back _ _ _=>false
structure Env where
 T:TypeId->Option TI
 C:FuncId->List D->Option (Prop×List D)
 ext:FuncId->List Value->Option (Prop×List Value)
 glob:Nat->Option (IntKind×List Int)
 nt:Nat
 own:List Nat
 keep:Nat->List Nat
 roll:Nat->Option Nat
 cut:Nat->Option (List Nat)
 n0:Nat:=0
 io:List Nat:=[]
 ioF:FuncId->List Nat:=fun _=>[]
 wide:Option IntKind:=none
 short:Bool:=false
def wideS(w:Option IntKind)(v:Value):S:=match w with
 |none=>.sc v
 |some k=>match v with
  | .slice none 0 0=>.ints k []
  |v=>.sc v
def evA(E:Env)(fr:Nat->A):Operand->A
 | .tmp t=>fr t
 | .const v=>if _h:v.oneCell'=true then yF v else .any
 | .global g=>match E.glob g with
  |some (k,ns)=>.v (.one (.Nw k ns))
  |none=>.any
 | .func f=>yF (.func (.func f) #[] #[])
def funOf:A->Option FuncId
 | .v (.one (.s (.sc (.func (.func f) ⟨[]⟩ ⟨[]⟩))))=>some f
 |_=>none
abbrev nV:=List (Nat×Option iM)
def bndA(d:Int):Option A->Option Int
 |none=>some d
 |some (.v (.one (.s (.sc (.int _ n)))))=>some n
 |_=>none
def sliceK{R:Type}(len:Nat)(lo hi mx:Option A)(K:Nat->Nat->Option R):Option R :=
 match bndA 0 lo,bndA len hi,mx with
 |some l,some h,none=>if 0<=l/\l<=h/\h<=len then K l.toNat h.toNat else none
 |some l,some h,some mx=>match hi,bndA len (some mx)with
  |some _,some m=>if 0<=l/\l<=h/\h<=m/\m<=len then K l.toNat h.toNat else none
  |_,_=>none
 |_,_,_=>none
abbrev aB{R:Type}(b:Bool)(x y:Option R):Option R:=bif b then x else y
def splitN{R:Type}(n:Int):Nat->Nat->(Nat->Option R)->Option R
 |0,_,_=>none
 |m+1,j,K=>aB (decide (n=(j:Int))) (K j) (splitN n m (j+1) K)
def idxK{R:Type}(hp:Nat->Option iM)(t:TI)(nQ:Nat)(x:A)(n:Int)(K:A->Option R):Option R :=
 match x with
 | .v (.one (.s (.ints k ns)))=>if nQ=1 then(if 0<=n/\n<(ns.length:Int)then K (.v (.one (.Jt [.sc (.int k (ns.getD n.toNat 0))])))else none)else none
 | .v (.one (.buf id m))=>match hp id with
  |some ⟨_,.ints _ _⟩=>if nQ=1 then(if 0<=n/\n<(m:Int)then K (.v (.one (.Ms id n.toNat)))else none)else none
  |some ⟨_,.cells _⟩=>if 0<=n/\n<(m:Int)then K (.v (.one (.ptr id (n.toNat*nQ))))else none
  |none=>none
 | .v (.one (.view id off m))=>match hp id with
  |some ⟨_,.ints _ _⟩=>if nQ=1 then(if 0<=n/\n<(m:Int)then K (.v (.one (.Ms id (off+n.toNat))))else none)else none
  |_=>none
 | .v (.one (.rows sz m f))=>if sz=nQ then(if 0<=n/\n<(m:Int)then K (.v (.one (.Jt (f n.toNat))))else none)else none
 | .v (.one (.ptr id off))=>match t.kind with
  | .arr len _ _=>bif bLU len 8 then splitN n len 0 (fun j=>K (.v (.one (.ptr id (off+j*nQ)))))else if 0<=n/\n<(len:Int)then K (.v (.one (.ptr id (off+n.toNat*nQ))))else none
  |_=>none
 | .v (.one (.Nw k ns))=>match t.kind with
  | .arr len _ _=>if ns.length=len/\nQ=1 then(if 0<=n/\n<(len:Int)then K (.v (.one (.Jt [.sc (.int k (ns.getD n.toNat 0))])))else none)else none
  |_=>none
 |_=>none
def idxS{R:Type}(sh:Bool)(hp:Nat->Option iM)(t:TI)(nQ:Nat)(x:A)(n:Int)(K:A->Option R):Option R:=match sh,x with
 |true,.v (.one (.buf id m))=>match hp id with
  |some ⟨_,.cells cs⟩=>splitN n (cs.length/nQ) 0 fun j=>idxK hp t nQ (.v (.one (.buf id m))) (j:Int) K
  |_=>idxK hp t nQ (.v (.one (.buf id m))) n K
 |_,x=>idxK hp t nQ x n K
def intArg:A->Option (IntKind×Int)
 | .v (.one (.s (.sc (.int k n))))=>some (k,n)
 |_=>none
def foldMM(op:BinOp)(k:IntKind):Int->List A->Option Int
 |n,[]=>some n
 |n,.v (.one (.s (.sc (.int k' m)))) :: r=>if _h:k=k' then foldMM op k (match op with | .gtr=>if m>n then m else n |_=>if m<n then m else n) r else none
 |_,_=>none
def lenA:A->Option Nat
 | .v (.one (.s (.ints _ ns)))=>some ns.length
 | .v (.one (.s (.sc (.slice none 0 0))))=>some 0
 | .v (.one (.buf _ n))=>some n
 | .v (.one (.view _ _ n))=>some n
 | .v (.one (.rows _ n _))=>some n
 |_=>none
def argVals:List A->Option (List Value)
 | []=>some []
 | .v (.one (.s (.sc v))) :: r=>(argVals r).map (v :: ·)
 |_ :: _=>none
def Di(s:ByteArray)(n:Int):Int:=match s[n.toNat]? with
 |some b=>b.toNat
 |none=>0
def aSA:List Value->A
 | [v]=>yF v
 |vs=>.Ix (vs.map fun v=>.one (.s (.sc v)))
def keepOf(E:Env)(o:Oper):Bool:=match o.dst with
 |some d=>E.own.contains d
 |none=>false
open Classical in
def aP {R:Type} (g:Prop) (a:Option R):Option R:=if g then a else none
def aC{α R:Type}(x:α)(k:α->Option R):Option R:=k x
theorem aM{α R:Type}(x:α)(k:α->Option R):aC x k=k x:=rfl
def shS{R:Type}(s:S)(K:S->Option R):Option R:=match s with
 | .sc (.int k n)=>aC n fun n=>K (.sc (.int k n))
 | .sc (.bool b)=>aC b fun b=>K (.sc (.bool b))
 | .sc (.float k b)=>aC b fun b=>K (.sc (.float k b))
 | .ints k ns=>aC ns fun ns=>K (.ints k ns)
 |s=>K s
def shCs{R:Type}:List S->(List S->Option R)->Option R
 | [],K=>K []
 |s :: r,K=>shS s fun s=>shCs r fun r=>K (s :: r)
def shD{R:Type}(d:D)(K:D->Option R):Option R:=match d with
 | .s x=>shS x fun x=>K (.s x)
 | .agg cs=>shCs cs fun cs=>K (.agg cs)
 | .own e k ns=>aC ns fun ns=>K (.own e k ns)
 | .io e k ns off n=>aC ns fun ns=>K (.io e k ns off n)
 |d=>K d
def shDs{R:Type}:List D->(List D->Option R)->Option R
 | [],K=>K []
 |d :: r,K=>shD d fun d=>shDs r fun r=>K (d :: r)
theorem aCI{R:Type}(s:S)(K:S->Option R):shS s K=K s:=by
 unfold shS;split <;> rfl
theorem Wa{R:Type}:∀(cs:List S) (K:List S->Option R),shCs cs K=K cs
 | [],_=>rfl
 |s :: r,K=>by unfold shCs;rw[aCI,Wa r]
theorem aNF{R:Type}(d:D)(K:D->Option R):shD d K=K d:=by
 unfold shD;split
 ·exact aCI _ _
 ·exact Wa _ _
 ·rfl
 ·rfl
 ·rfl
theorem Aa{R:Type}:∀(ds:List D) (K:List D->Option R),shDs ds K=K ds
 | [],_=>rfl
 |d :: r,K=>by unfold shDs;rw[aNF,Aa r]
def Ju(xs ys:List Nat):Bool:=xs.all fun x=>!(ys.elem x)
def nodup:List Nat->Bool
 | []=>true
 |x :: r=>!(r.elem x)&&nodup r
def toIO(hp:Nat->Option iM):A->Option (Nat×D)
 | .v (.one (.buf id n))=>match hp id with
  |some ⟨e,.ints k ns⟩=>some (id,.io e k ns 0 n)
  |_=>none
 | .v (.one (.view id off n))=>match hp id with
  |some ⟨e,.ints k ns⟩=>some (id,.io e k ns off n)
  |_=>none
 |_=>none
def argsIO(ps:List Nat)(hp:Nat->Option iM):Nat->List A->Option (List (Nat×Nat)×List D)
 |_,[]=>some ([],[])
 |i,a :: r=>bif ps.elem i then(match toIO hp a with
   |some (id,d)=>match argsIO ps hp (i+1) r with
    |some (us,ds)=>some ((i,id) :: us,d :: ds)
    |none=>none
   |none=>none)
  else(match toD hp a with
   |some d=>match argsIO ps hp (i+1) r with
    |some (us,ds)=>some (us,d :: ds)
    |none=>none
   |none=>none)
def nC(ps:List Nat):Nat->List A->List Nat
 |_,[]=>[]
 |i,a :: r=>(bif ps.elem i then []else refs a) ++ nC ps (i+1) r
def leqN:List Nat->List Nat->Bool
 | [],[]=>true
 |a :: r,b :: s=>bLS a b&&leqN r s
 |_,_=>false
def backIO:List (Nat×Nat)->List D->Option nV
 | [],[]=>some []
 | (_,id) :: us,.io e k ns _ _ :: ds=>match backIO us ds with
  |some u=>some ((id,some ⟨e,.ints k ns⟩) :: u)
  |none=>none
 |_,_=>none
def idAt:List (Nat×Nat)->Nat->Nat
 | [],_=>0
 |q :: us,p=>bif bLS q.1 p then q.2 else idAt us p
def reBack(us:List (Nat×Nat)):D->D
 | .back p off n=>.back (idAt us p) off n
 |d=>d
def callIO{R:Type}(E:Env)(ps:List Nat)(id:Nat)(keep:Bool)(f:FuncId)(args:List A)(hp:Nat->Option iM)(K:A->nV->Option R):Option R :=
 match argsIO ps hp 0 args with
 |none=>none
 |some (us,ds)=>bif leqN (us.map (·.1)) ps&&(nodup (us.map (·.2))&&Ju (us.map (·.2)) (nC ps 0 args))then
  match E.C f ds with
  |none=>none
  |some (g,rs) =>
   aP g (shDs rs fun rs=>bif bLU us.length rs.length&&bLU rs.length 8&&!((rs.take (rs.length-us.length)).any shares)then
   match backIO us (rs.drop (rs.length-us.length))with
   |none=>none
   |some ub =>
    let r:=takeAll keep id ((rs.take (rs.length-us.length)).map (reBack us))
    match r.1 with
    | [x]=>K (.v x) (ub ++ r.2)
    |xs=>K (.Ix xs) (ub ++ r.2)
   else none)
  else none
def callK{R:Type}(E:Env)(id:Nat)(keep:Bool)(f:FuncId)(args:List A)(hp:Nat->Option iM)(K:A->nV->Option R):Option R :=
 match args.mapM (toD hp)with
 |none=>none
 |some ds=>match E.C f ds with
  |none=>none
  |some (g,rs) =>
   aP g (shDs rs fun rs=>bif bLU rs.length 8 then
   let r:=takeAll keep id rs
   let aHG:=(bif rs.any shares then(args.flatMap refs).map fun i=>(i,none)else []) ++ r.2
   match r.1 with
   | [x]=>K (.v x) aHG
   |xs=>K (.Ix xs) aHG
   else none)
def appCells{R:Type}(n0 id:Nat)(e:TypeId)(te:TI)(s x:A)(hp:Nat->Option iM)(K:A->nV->Option R):Option R:=match x with
 | .v (.one (.buf j m))=>match hp j with
  |some ⟨_,.cells new⟩=>if 0<m/\new.length=m*te.size then(match s with
   | .v (.one (.buf i n))=>match hp i with
    |some ⟨e',.cells cs⟩=>if e=e'/\n0<=i/\0<n/\cs.length=n*te.size/\(n+m)*te.bytes<=1073741824/\n+m<=1073741824 then K (.v (.one (.buf id (n+m)))) [(i,none),(id,some ⟨e,.cells (cs ++ new)⟩)]else none
    |_=>none
   | .v (.one (.s (.sc (.slice none 0 0))))=>if m*te.bytes<=1073741824/\m<=1073741824 then K (.v (.one (.buf id m))) [(id,some ⟨e,.cells new⟩)]else none
   |_=>none)else none
  |_=>none
 |_=>none
def builtinK{R:Type}(E:Env)(id:Nat)(b:Builtin)(args:List A)(uC:List TypeId)(hp:Nat->Option iM)(K:A->nV->Option R):Option R :=
 match b,args,uC with
 | .len,[x],[t]=>match E.T t,lenA x with
  |some ⟨_,_,_,.slice _⟩,some n=>K (yF (.int .i64 n)) []
  |some ⟨_,_,_,.arr n _ _⟩,_=>K (yF (.int .i64 n)) []
  |_,_=>none
 | .max,.v (.one (.s (.sc (.int k n)))) :: r,_=>match foldMM .gtr k n r with
  |some m=>K (yF (.int k m)) []
  |none=>none
 | .min,.v (.one (.s (.sc (.int k n)))) :: r,_=>match foldMM .lss k n r with
  |some m=>K (yF (.int k m)) []
  |none=>none
 | .append,[s,x],[t,t']=>if t=t' then
   match E.T t with
   |some ⟨_,_,_,.slice e⟩=>match E.T e with
    |some ⟨1,bytes,_,.int k⟩=>if bytes<=8 then
      match s,intsOf hp k x with
      | .v (.one (.buf i _)),some ms=>match hp i with
       |some ⟨e',.ints k' ns⟩=>bif bMC i E.n0 then none else if e=e'/\k=k' then(if 0<ms.length/\((ns.length+ms.length:Nat):Int)<=room then K (.v (.one (.buf id (ns.length+ms.length)))) [(i,none),(id,some ⟨e,.ints k (ns ++ ms)⟩)]else none)else none
       |_=>none
      | .v (.one (.s (.sc (.slice none 0 0)))),some ms=>if 0<ms.length/\(ms.length:Int)<=room then K (.v (.one (.buf id ms.length))) [(id,some ⟨e,.ints k ms⟩)]else none
      |_,_=>none
     else none
    |some te=>appCells E.n0 id e te s x hp K
    |none=>none
   |_=>none
  else none
 | .copy,[d,s],[t,_] =>
   match E.T t with
   |some ⟨_,_,_,.slice e⟩=>match E.T e with
    |some ⟨1,_,_,.int k⟩ =>
      match d,intsOf hp k s with
      | .v (.one (.buf i n)),some ms=>match hp i with
       |some ⟨e',.ints k' ns⟩=>if k=k' then K (yF (.int .i64 (min ms.length n:Nat))) [(i,some ⟨e',.ints k (ms.take n ++ ns.drop (min ms.length n))⟩)]else none
       |_=>none
      | .v (.one (.view i off n)),some ms=>match hp i with
       |some ⟨e',.ints k' ns⟩=>if k=k'/\off+n<=ns.length then K (yF (.int .i64 (min ms.length n:Nat))) [(i,some ⟨e',.ints k (ns.take off ++ (ms.take n ++ ns.drop (off+min ms.length n)))⟩)]else none
       |_=>none
      |_,_=>none
    |_=>none
   |_=>none
 |_,_,_=>none
def Qc:List Value->Option (List IntKind)
 | []=>some []
 | .int k _ :: r=>(Qc r).map (k :: ·)
 |_=>none
def uI(ti:TI):Option (List IntKind):=match ti.kind with
 | .struct fs=>if(fs.all fun f=>bLS f.2.1 1&&!f.2.2)=true then Qc ti.zero else none
 |_=>none
def eqInts:List IntKind->List S->List S->Option Bool
 | [],[],[]=>some true
 |k :: ks,.sc (.int k1 a) :: r,.sc (.int k2 b) :: r'=>if k1=k/\k2=k then(eqInts ks r r').map fun q=>(a==b)&&q else none
 |_,_,_=>none
def eqAgg(t:Option TI)(cs ds:List S):Option Bool:=match t with
 |some ti=>match uI ti with
  |some ks=>eqInts ks cs ds
  |none=>none
 |none=>none
def aPD:List S->Option IntKind
 | .sc (.int k _) :: _=>some k
 |_=>none
def pickC(len m:Nat)(cs:List S):Option S:=match aPD cs with
 |some k=>match allInts k cs with
  |some ns=>bif bLS ns.length len then some (.sc (.int k (ns.getD m 0)))else cs[m]?
  |none=>cs[m]?
 |none=>cs[m]?
def aNW(len nQ n:Nat)(cs:List S):Option S:=bif bLS nQ 1 then pickC len n cs else cs[n*nQ]?
theorem Rp{k:IntKind}{cs:List S}:∀{ns:List Int},allInts k cs=some ns->∀m,m<ns.length->cs[m]?=some (.sc (.int k (ns.getD m 0))):=by
 induction cs with
 |nil=>intro ns h m hm;cases h;simp at hm
 |cons c r ih =>
  intro ns h m hm;unfold allInts at h;split at h
  ·rename_i heq;cases heq
  ·rename_i k' n r' heq;cases heq;split at h
   ·rename_i hk;subst hk;obtain⟨rs,hr,rfl⟩:=Option.map_eq_some_iff.1 h;cases m with
    |zero=>rfl
    |succ m=>simpa using ih hr m (by simpa using hm)
   ·cases h
  ·cases h
theorem aJE{len nQ:Nat}{n:Int}(cs:List S)(h:0<=n/\n<(len:Int)):aNW len nQ n.toNat cs=cs[n.toNat*nQ]?:=by
 unfold aNW;cases he:bLS nQ 1 with
 |false=>rfl
 |true =>
  have:=bMF he;subst this;rw[cond_true,bMB];unfold pickC;split
  ·rename_i k _;split
   ·rename_i ns aQT;cases hl:bLS ns.length len with
    |false=>rfl
    |true =>
     have:=bMF hl;rw[cond_true,Rp aQT n.toNat (by omega)]
   ·rfl
  ·rfl
def effK{R:Type}(E:Env)(id:Nat)(o:Oper)(ev:Operand->A)(hp:Nat->Option iM)(K:A->nV->Option R):Option R :=
 match o.op with
 | .move x=>K (ev x) []
 | .assign x=>K (ev x) []
 | .pick c a b=>match ev c with
  | .v (.one (.s (.sc (.bool t))))=>match ev a,ev b with
   | .v (.one (.s (.sc (.bool p)))),.v (.one (.s (.sc (.bool q))))=>K (yF (.bool (bif t then p else q))) []
   |x,y=>bif t then K x []else K y []
  |_=>none
 | .alloc e=>match E.T e with
  |some ti=>K (.v (.one (.ptr id 0))) [(id,some ⟨e,.cells (ti.zero.map (wideS E.wide))⟩)]
  |none=>none
 | .box e x=>match E.T e,cellsOf hp (ev x)with
  |some ti,some (cs,u)=>if cs.length=ti.size then K (.v (.one (.ptr id 0))) (u ++ [(id,some ⟨e,.cells cs⟩)])else none
  |_,_=>none
 | .build t parts=>match E.T t with
  |some ⟨_,_,zero,.struct fs⟩=>fillK hp (fun i=>(fs[i]?).map fun f=>(f.1,f.2.1)) ev parts.toList (zero.map .sc) [] fun cs u=>K (.v (.agg cs)) u
  |some ⟨_,_,zero,.arr _ nQ _⟩=>fillK hp (fun i=>some (i*nQ,nQ)) ev parts.toList (zero.map .sc) [] fun cs u=>K (.v (.agg cs)) u
  |_=>none
 | .buildSlice t len parts=>match E.T t with
  |some ⟨_,_,_,.slice e⟩=>match E.T e with
   |some ⟨size,_,zero,kind⟩ =>
    if len*size<=16777216/\0<size then
    fillK hp (fun i=>some (i*size,size)) ev parts.toList ((bNB (len*size)).map fun i=>S.sc (zero.getD (i%size) undef)) [] fun cs u =>
     match kind,size with
     | .int k,1=>match allInts k cs with
      |some ns=>K (.v (.one (.buf id len))) (u ++ [(id,some ⟨e,.ints k ns⟩)])
      |none=>none
     |_,_=>K (.v (.one (.buf id len))) (u ++ [(id,some ⟨e,.cells cs⟩)])
    else none
   |none=>none
  |_=>none
 | .load t x=>match E.T t with
  |some ti=>match ev x with
   | .v (.one (.ptr i off))=>match hp i with
    |some ⟨_,.cells cs⟩=>match partOf ti cs off with
     |some v=>K (.v v) []
     |none=>none
    |_=>none
   | .v (.one (.Ms i j))=>match hp i,ti.kind.isAgg with
    |some ⟨_,.ints k ns⟩,false=>K (yF (.int k (ns.getD j 0))) []
    |_,_=>none
   | .v (.one (.Jt cs))=>match partOf ti cs 0 with
    |some v=>K (.v v) []
    |none=>none
   |_=>none
  |none=>none
 | .store t x y=>match E.T t with
  |some ti=>match ev x with
   | .v (.one (.ptr i off))=>match hp i,cellsOf hp (ev y)with
    |some ⟨e,.cells cs⟩,some (new,u)=>if new.length=ti.size/\off+new.length<=cs.length/\(u.all fun p=>p.1 !=i)=true then K .any (u ++ [(i,some ⟨e,.cells (setAt cs off new)⟩)])else none
    |_,_=>none
   | .v (.one (.Ms i j))=>match hp i,ev y with
    |some ⟨e,.ints k ns⟩,.v (.one (.s (.sc (.int k' n))))=>if k=k'/\ti.size=1 then K .any [(i,some ⟨e,.ints k (ns.set j n)⟩)]else none
    |_,_=>none
   |_=>none
  |none=>none
 | .binOp op t x y _=>match ev x,ev y with
  | .v (.one (.s (.sc a))),.v (.one (.s (.sc b)))=>bif boolT (E.T t) a then binK op a b fun r=>K (yF r) []else none
  | .v (.agg cs),.v (.agg ds)=>match eqAgg (E.T t) cs ds with
   |some b=>match op with
    | .eql=>K (yF (.bool b)) []
    | .neq=>K (yF (.bool (!b))) []
    |_=>none
   |none=>none
  |_,_=>none
 | .unOp op _ x=>match ev x with
  | .v (.one (.s (.sc a)))=>unK op a fun r=>K (yF r) []
  |_=>none
 | .convert s d x=>match E.T s,E.T d,ev x with
  |some _,some ti,.v (.one (.s (.sc a)))=>convK ti.kind a fun r=>K (yF r) []
  |_,_,_=>none
 | .makeSlice t l c=>match E.T t,intArg (ev l),intArg (ev c)with
  |some ⟨_,_,_,.slice e⟩,some (_,a),some (_,b)=>match E.T e with
   |some ⟨1,bytes,[.int k0 z0],.int k⟩=>if bytes<=8/\0<bytes/\k0=k/\z0=0 then
     (if 0<=a/\a<=b/\b<=room then K (.v (.one (.buf id a.toNat))) [(id,some ⟨e,.ints k (bNU a.toNat 0)⟩)]else none)else none
   |_=>none
  |_,_,_=>none
 | .slice t x lo hi mx=>match E.T t with
  |some ⟨_,_,_,.slice e⟩=>match E.T e with
   |some ⟨1,_,_,.int k⟩=>match ev x with
    | .v (.one (.s (.ints k' ns)))=>if k=k' then sliceK ns.length (lo.map ev) (hi.map ev) (mx.map ev) fun l h=>K (.v (.one (.s (.ints k ((ns.take h).drop l))))) []else none
    | .v (.one (.s (.sc (.slice none 0 0))))=>sliceK 0 (lo.map ev) (hi.map ev) (mx.map ev) fun _ _=>K (.v (.one (.s (.ints k [])))) []
    | .v (.one (.buf i n))=>sliceK n (lo.map ev) (hi.map ev) (mx.map ev) fun l h=>K (.v (.one (.view i l (h-l)))) []
    | .v (.one (.view i off n))=>sliceK n (lo.map ev) (hi.map ev) (mx.map ev) fun l h=>K (.v (.one (.view i (off+l) (h-l)))) []
    |_=>none
   |some te=>match ev x with
    | .v (.one (.rows sz n f))=>if sz=te.size then sliceK n (lo.map ev) (hi.map ev) (mx.map ev) fun l h=>K (.v (.one (.rows sz (h-l) fun i=>f (l+i)))) []else none
    |_=>none
   |none=>none
  |_=>none
 | .fieldAddr t x f=>match E.T t with
  |some ⟨_,_,_,.struct fs⟩=>match fs[f]?,ev x with
   |some (off,size,_),.v (.one (.ptr i o))=>if 0<size then K (.v (.one (.ptr i (o+off)))) []else none
   |some (off,size,_),.v (.one (.Jt cs))=>if 0<size then K (.v (.one (.Jt (cs.drop off)))) []else none
   |_,_=>none
  |_=>none
 | .field t x f=>match E.T t with
  |some ⟨_,_,_,.struct fs⟩=>match fs[f]?,ev x with
   |some (off,size,g),.v (.agg cs)=>match (bif g then(if _h:off+size<=cs.length then some (V.agg ((cs.drop off).take size))else none)else(cs[off]?).map fun c=>V.one (.s c))with
    |some v=>K (.v v) []
    |none=>none
   |_,_=>none
  |_=>none
 | .indexAddr t x i=>match E.T t,intArg (ev i)with
  |some ti,some (_,n)=>match ti.kind with
   | .slice e=>match E.T e with
    |some te=>match ev x with
     | .v (.one (.ptr _ _))=>none
     | .v (.one (.Nw _ _))=>none
     |xa=>idxS E.short hp ti te.size xa n fun a=>K a []
    |none=>none
   | .arr _ nQ _=>match ev x with
    | .v (.one (.ptr i off))=>idxK hp ti nQ (.v (.one (.ptr i off))) n fun a=>K a []
    | .v (.one (.Nw k ns))=>idxK hp ti nQ (.v (.one (.Nw k ns))) n fun a=>K a []
    |_=>none
   |_=>none
  |_,_=>none
 | .index t x i=>match E.T t,ev x,intArg (ev i)with
  |some ⟨_,_,_,.arr len nQ g⟩,.v (.agg cs),some (_,n)=>if 0<=n/\n<len then
    match (bif g then(if _h:n.toNat*nQ+nQ<=cs.length then some (V.agg ((cs.drop (n.toNat*nQ)).take nQ))else none)else(aNW len nQ n.toNat cs).map fun c=>V.one (.s c))with
    |some v=>K (.v v) []
    |none=>none
   else none
  |some ⟨_,_,_,.str⟩,.v (.one (.s (.sc (.string s)))),some (_,n)=>if 0<=n/\n<(s.size:Int)then K (yF (.int .u8 (Di s n))) []else none
  |_,_,_=>none
 | .extract x i=>match ev x with
  | .Ix xs=>match xs[i]? with
   |some v=>K (.v v) []
   |none=>none
  |_=>none
 | .call ⟨.value fo,args,_⟩=>match funOf (ev fo)with
  |some f=>match (argVals (args.toList.map ev)).bind (E.ext f)with
   |some (g,vs)=>aP g (K (aSA vs) [])
   |none=>match E.ioF f with
    | []=>callK E id (keepOf E o) f (args.toList.map ev) hp K
    |p :: ps=>callIO E (p :: ps) id (keepOf E o) f (args.toList.map ev) hp K
  |none=>none
 | .call ⟨.builtin b,args,uC⟩=>builtinK E id b (args.toList.map ev) uC.toList hp K
 |_=>none
def applyUps:nV->(Nat->Option iM)->Nat->Option iM
 | [],hp=>hp
 | (i,b) :: r,hp=>applyUps r (xO hp i b)
def yZ(o:Oper)(a:A)(fr:Nat->A):Nat->A :=
 match o.dst with
 |some d=>xO fr d a
 |none=>fr
def after(o:Oper)(st:St)(a:A)(u:nV):St:=⟨yZ o a st.fr,applyUps u st.hp,st.n⟩
def oR(E:Env)(id:Nat)(o:Oper)(ev:Operand->A)(hp:Nat->Option iM):Option (A×nV):=effK E id o ev hp fun a u=>some (a,u)
structure Rec where
 i:Nat
 o:Oper
 aBJ:List Nat
 aHG:List Nat
def qH(o:Oper)(ev:Operand->A)(u:nV):List Nat:=(o.op.operands.toList.flatMap fun x=>refs (ev x)) ++ u.map (·.1)
def befB(ops:Array Oper)(j:Nat):Nat->Oper->Bool
 |0,_=>false
 |n+1,o=>o.after.any fun e=>Region.binds .any e&&(e.on==j||(match ops[e.on]? with |some o'=>befB ops j n o' |none=>false))
def indep(ops:Array Oper)(r:Rec)(_i:Nat)(o:Oper)(aBJ aHG:List Nat):Bool :=
 (o.after.any fun e=>Region.binds .any e&&e.on==r.i)||(r.o.apart ops o&&Ju r.aHG aBJ&&Ju aHG r.aBJ)||befB ops r.i 3 o
def gY(nt:Nat)(o:Oper):Bool:=match o.dst with
 |some d=>bMC d nt
 |none=>true
def uU(i:Nat)(o:Oper):Bool:=o.after.all fun e=>!Region.binds .any e||bMC e.on i
def opsK{R:Type}(E:Env)(draw:Bool)(ops:Array Oper)(base:Nat):List Oper->Nat->List Rec->St->(St->Option R)->Option R
 | [],_,_,st,K=>K st
 |o :: rest,i,mJ,st,K =>
  bif gY E.nt o&&(!draw||uU i o)then
  match o.guard with
  |none=>effK E (base+8*i) o (evA E st.fr) st.hp fun a u =>
    let t:=qH o (evA E st.fr) u
    bif !draw||mJ.all fun r=>indep ops r i o t (u.map (·.1))then opsK E draw ops base rest (i+1) (⟨i,o,t,u.map (·.1)⟩ :: mJ) (after o st a u) K else none
  |some (j,want)=>match (ops[j]?).bind (·.dst)with
   |some d=>match st.fr d with
    | .v (.one (.s (.sc (.bool b)))) =>
     let go (lit:Bool):Option R :=
      let eI:St:=⟨xO st.fr d (yF (.bool lit)),st.hp,st.n⟩
      bif lit==want then
       effK E (base+8*i) o (evA E eI.fr) eI.hp fun a u =>
        let t:=qH o (evA E eI.fr) u
        bif !draw||mJ.all fun r=>indep ops r i o t (u.map (·.1))then opsK E draw ops base rest (i+1) (⟨i,o,t,u.map (·.1)⟩ :: mJ) (after o eI a u) K else none
      else bif !draw||mJ.all fun r=>indep ops r i o [] []then opsK E draw ops base rest (i+1) (⟨i,o,[],[]⟩ :: mJ) (after o eI (.Ix []) []) K else none
     aB b (go true) (go false)
    | .Ix []=>bif !draw||mJ.all fun r=>indep ops r i o [] []then opsK E draw ops base rest (i+1) (⟨i,o,[],[]⟩ :: mJ) (after o st (.Ix []) []) K else none
    |_=>none
   |none=>none
  else none
inductive Ex where
 |normal
 |exit (id:Nat)
 |ret
abbrev KV:=A×Option iM
def aEJ(st:St)(s:Nat):Option (Nat×A):=match st.fr s with
 | .v (.one (.buf i n))=>match st.hp i with
  |some ⟨_,.cells cs⟩=>if n*(cs.length/n)=cs.length/\0<n then some (i,.v (.one (.rows (cs.length/n) n fun j=>(cs.drop (j*(cs.length/n))).take (cs.length/n))))else none
  |_=>none
 |_=>none
def canonGo(n0:Nat)(st:St):List Nat->Nat->List Nat->List KV
 | [],_,_=>[]
 |s :: r,p,seen=>bif bLU 1000000 s then(match aEJ st (s%1000000)with
   |some (i,a)=>bif seen.elem i then(.any,none) :: canonGo n0 st r (p+1) seen else(a,none) :: canonGo n0 st r (p+1) (i :: seen)
   |none=>(.any,none) :: canonGo n0 st r (p+1) seen)else
  match st.fr (s%1000000)with
  | .v (.one (.buf i n))=>bif seen.elem i then(.any,none) :: canonGo n0 st r (p+1) seen else(.v (.one (.buf p n)),st.hp i) :: canonGo n0 st r (p+1) (i :: seen)
  | .v (.one (.ptr i 0))=>bif seen.elem i then(.any,none) :: canonGo n0 st r (p+1) seen else(.v (.one (.ptr p 0)),st.hp i) :: canonGo n0 st r (p+1) (i :: seen)
  | .v (.one (.ptr _ _))=>(.any,none) :: canonGo n0 st r (p+1) seen
  | .v (.one (.Ms _ _))=>(.any,none) :: canonGo n0 st r (p+1) seen
  | .v (.one (.view i off n))=>bif bMC i n0 then(.v (.one (.view i off n)),none) :: canonGo n0 st r (p+1) seen else(.any,none) :: canonGo n0 st r (p+1) seen
  | .Ix _=>(.any,none) :: canonGo n0 st r (p+1) seen
  |a=>(a,none) :: canonGo n0 st r (p+1) seen
def canonIO(st:St):Nat->Nat->List KV
 |0,_=>[]
 |n+1,i=>(.any,st.hp i) :: canonIO st n (i+1)
def below:Nat->List Nat
 |0=>[]
 |n+1=>n :: below n
def canon(n0:Nat)(keep:List Nat)(st:St):List KV:=canonIO st n0 0 ++ canonGo n0 st keep n0 (below n0)
def slotGo(t:Nat):List Nat->List KV->A
 |s :: r,kv :: l=>bif bLS t (s%1000000)then kv.1 else slotGo t r l
 |_,_=>.any
def blkGo:Nat->List KV->Option iM
 |_,[]=>none
 |0,kv :: _=>kv.2
 |n+1,_ :: l=>blkGo n l
def mk(n0:Nat)(keep:List Nat)(l:List KV):St:=⟨fun t=>slotGo t keep (l.drop n0),fun i=>blkGo i l,n0+keep.length⟩
def keyOf:Code->Nat
 | .region id _ _=>id
 | .seq a _=>keyOf a
 | .block _ c=>keyOf c
 | .loop c=>keyOf c
 | .scope c=>keyOf c
 | .cond _ a _=>keyOf a
 |_=>0
section
variable {α R:Type}
def iter(G:(α->Option R)->α->Option R):Nat->α->Option R
 |0=>fun _=>none
 |n+1=>G (iter G n)
open Classical in
def fix (G:(α->Option R)->α->Option R) (a:α):Option R :=
 if h:∃r,∃n,iter G n a=some r then some (Classical.choose h)else none
end
abbrev roundOf{R:Type}(ec:Code->St->(Ex->St->Option R)->Option R)(n0:Nat)(keep:List Nat)(c:Code)(K:Ex->St->Option R)(rec:List KV->Option R)(l:List KV):Option R :=
 ec c (mk n0 keep l) fun ex eI=>match ex with
  | .normal=>rec (canon n0 keep eI)
  | .exit i=>K (.exit i) eI
  | .ret=>K .ret eI
def xY{R:Type}(_key:Nat)(l:List KV)(k:List KV->Option R):Option R:=k l
def evalCode{R:Type}(E:Env):Code->St->(Ex->St->Option R)->Option R
 | .skip,st,K=>K .normal st
 | .label _,st,K=>K .normal st
 | .region _ ops draw,st,K=>opsK E draw ops st.n ops.toList 0 [] st fun eI=>K .normal ⟨eI.fr,eI.hp,st.n+8*ops.size⟩
 | .seq a b,st,K=>evalCode E a st fun ex eI=>match ex with
  | .normal=>match E.cut (keyOf b)with
   |some keep=>xY (keyOf b) (canon E.n0 keep eI) fun l=>evalCode E b (mk E.n0 keep l) K
   |none=>evalCode E b eI K
  | .exit i=>K (.exit i) eI
  | .ret=>K .ret eI
 | .cond c a b,st,K=>match c with
  | .tmp s=>match st.fr s with
   | .v (.one (.s (.sc (.bool t))))=>aB t (evalCode E a ⟨xO st.fr s (yF (.bool true)),st.hp,st.n⟩ K) (evalCode E b ⟨xO st.fr s (yF (.bool false)),st.hp,st.n⟩ K)
   |_=>none
  | .const (.bool t)=>aB t (evalCode E a st K) (evalCode E b st K)
  |_=>none
 | .block id c,st,K=>evalCode E c st fun ex eI=>match ex with
  | .normal=>K .normal eI
  | .exit i=>bif bLS i id then K .normal eI else K (.exit i) eI
  | .ret=>K .ret eI
 | .exit id,st,K=>K (.exit id) st
 | .ret,st,K=>K .ret st
 | .loop c,st,K=>match E.roll (keyOf c)with
  |some n=>iter (fun rec l=>evalCode E c (mk E.n0 (E.keep (keyOf c)) l) fun ex eI=>match ex with
    | .normal=>rec (canon E.n0 (E.keep (keyOf c)) eI)
    | .exit i=>K (.exit i) eI
    | .ret=>K .ret eI) n (canon E.n0 (E.keep (keyOf c)) st)
  |none=>fix (fun rec l=>evalCode E c (mk E.n0 (E.keep (keyOf c)) l) fun ex eI=>match ex with
    | .normal=>rec (canon E.n0 (E.keep (keyOf c)) eI)
    | .exit i=>K (.exit i) eI
    | .ret=>K .ret eI) (canon E.n0 (E.keep (keyOf c)) st)
 | .scope c,st,K=>evalCode E c st K
 |_,_,_=>none
def resD(E:Env)(st:St):ResultVar->Option D
 | .tmp t=>match st.fr t with
  | .v (.agg cs)=>some (.agg cs)
  | .v (.one (.s x))=>some (.s x)
  | .v (.one (.buf i _))=>bif bMC i E.n0 then none else match st.hp i with
   |some ⟨e,.ints k ns⟩=>some (.own e k ns)
   |_=>none
  | .v (.one (.view i off n))=>bif E.io.elem i then some (.back i off n)else bif bMC i E.n0 then none else match st.hp i,off with
   |some ⟨e,.ints k ns⟩,0=>some (.own e k (ns.take n))
   |_,_=>none
  |_=>none
 | .cell t ty=>match st.fr t,E.T ty with
  | .v (.one (.ptr i off)),some ti=>match st.hp i with
   |some ⟨_,.cells cs⟩=>match partOf ti cs off with
    |some (.agg Hr)=>some (.agg Hr)
    |some (.one (.s x))=>some (.s x)
    |_=>none
   |_=>none
  |_,_=>none
def ownIds(st:St):List ResultVar->List Nat
 | []=>[]
 | .tmp t :: r=>(match st.fr t with | .v (.one (.buf i _))=>[i] | .v (.one (.view i _ _))=>[i] |_=>[]) ++ ownIds st r
 | .cell _ _ :: r=>ownIds st r
def aSO(st:St)(i:Nat):Option D:=match st.hp i with
 |some ⟨e,.ints k ns⟩=>some (.io e k ns 0 0)
 |_=>none
def oH(E:Env)(fn:Func)(ex:Ex)(st:St):Option (List D) :=
 match ex with
 | .exit _=>none
 |_=>bif nodup (ownIds st fn.results.toList)then(match E.io with
  | []=>fn.results.toList.mapM (resD E st)
  |p :: ps=>match fn.results.toList.mapM (resD E st),(p :: ps).mapM (aSO st)with
   |some rs,some is=>some (rs ++ is)
   |_,_=>none)else none
def bBX:D->A
 | .s x=>.v (.one (.s x))
 | .rows sz n f=>.v (.one (.rows sz n f))
 | .agg cs=>.v (.agg cs)
 | .own _ k ns=>.v (.one (.s (.ints k ns)))
 | .io _ _ _ _ _=>.any
 | .back _ _ _=>.any
def argAt(i:Nat):D->A
 | .io _ _ _ off n=>.v (.one (.view i off n))
 |d=>bBX d
def argFrI:Nat->List D->Nat->A
 |_,[],_=>.any
 |i,d :: _,0=>argAt i d
 |i,_ :: r,n+1=>argFrI (i+1) r n
abbrev Rl:List D->Nat->A:=argFrI 0
def argHp:Nat->List D->Nat->Option iM
 |_,[],_=>none
 |i,.io e k ns _ _ :: r,j=>bif bLS j i then some ⟨e,.ints k ns⟩else argHp (i+1) r j
 |i,_ :: r,j=>argHp (i+1) r j
def aF(E:Env)(fn:Func)(c:Code)(ds:List D):Option (List D) :=
 evalCode E c ⟨Rl ds,argHp 0 ds,E.n0⟩ (oH E fn)
def Sr{R:Type}(E:Env)(b:Code)(K:Ex->St->Option R)(ex:Ex)(eI:St):Option R:=match ex with
 | .normal=>match E.cut (keyOf b)with
  |some keep=>xY (keyOf b) (canon E.n0 keep eI) fun l=>evalCode E b (mk E.n0 keep l) K
  |none=>evalCode E b eI K
 | .exit i=>K (.exit i) eI
 | .ret=>K .ret eI
def Hu{R:Type}(id:Nat)(K:Ex->St->Option R)(ex:Ex)(eI:St):Option R:=match ex with
 | .normal=>K .normal eI
 | .exit i=>bif bLS i id then K .normal eI else K (.exit i) eI
 | .ret=>K .ret eI
def Kq{R:Type}(E:Env)(c:Code)(K:Ex->St->Option R)(ex:Ex)(eI:St):Option R:=match ex with
 | .normal=>fix (fun rec l=>evalCode E c (mk E.n0 (E.keep (keyOf c)) l) fun ex eI=>match ex with
  | .normal=>rec (canon E.n0 (E.keep (keyOf c)) eI)
  | .exit i=>K (.exit i) eI
  | .ret=>K .ret eI) (canon E.n0 (E.keep (keyOf c)) eI)
 | .exit i=>K (.exit i) eI
 | .ret=>K .ret eI
def findLoop{R:Type}(E:Env)(key:Nat):Code->(Ex->St->Option R)->Option (Code×(Ex->St->Option R))
 | .seq a b,K=>(findLoop E key a (Sr E b K)).or (findLoop E key b K)
 | .cond _ a b,K=>(findLoop E key a K).or (findLoop E key b K)
 | .block id c,K=>findLoop E key c (Hu id K)
 | .loop c,K=>bif bLS (keyOf c) key then some (c,K)else findLoop E key c (Kq E c K)
 | .scope c,K=>findLoop E key c K
 |_,_=>none
def dW{R:Type}(E:Env)(key:Nat):Code->(Ex->St->Option R)->Option (Code×(Ex->St->Option R))
 | .seq a b,K=>bif bLS (keyOf b) key then some (b,K)else(dW E key a (Sr E b K)).or (dW E key b K)
 | .cond _ a b,K=>(dW E key a K).or (dW E key b K)
 | .block id c,K=>dW E key c (Hu id K)
 | .loop c,K=>dW E key c (Kq E c K)
 | .scope c,K=>dW E key c K
 |_,_=>none
end AI
namespace AI
open Go Go.RowKit
def mZ(X:Nat->Prop)(w:World):S->Value->Prop
 | .sc u,v=>v=u/\u.oneCell'=true
 | .ints k ns,v=>∃A c,v=.slice A ns.length c/\ns.length<=c/\∀(i:Nat) (n:Int),ns[i]?=some n->∃b off,A=some ⟨b,off,none⟩/\b<w.heap.size/\¬X b/\w.cell? ⟨b,off+i,none⟩=some (.int k n)
 | .bot,v=>v.oneCell'=true
def gF(X:Nat->Prop)(w:World)(cs:List S)(vs:List Value):Prop :=
 cs.length=vs.length/\∀(i:Nat) (s:S) (u:Value),cs[i]?=some s->vs[i]?=some u->mZ X w s u
def qV(X:Nat->Prop)(w:World)(b off:Nat)(cs:List S):Prop :=
 ∀(i:Nat) (s:S),cs[i]?=some s->b<w.heap.size/\¬X b/\∃u,w.cell? ⟨b,off+i,none⟩=some u/\mZ X w s u
def jM(w:World)(g:Nat):Nat:=match w.heap[g]? with
 |some (.cells arr _ _)=>arr.size
 |_=>0
def tK(k:IntKind)(ns:List Int):List S:=ns.map fun n=>.sc (.int k n)
def aAE(ρ:Nat->Nat)(hp:Nat->Option iM)(X:Nat->Prop)(w:World):L->Value->Prop
 | .s x,v=>mZ X w x v
 | .rows sz n f,v=>∃A c,v=.slice A n c/\n<=c/\∀i,i<n->(f i).length=sz/\∃b off,A=some ⟨b,off,none⟩/\qV X w b (off+i*sz) (f i)
 | .Jt cs,v=>∃b off,v=.pointer (some ⟨b,off,none⟩)/\qV X w b off cs
 | .Nw k ns,v=>∃b off,v=.pointer (some ⟨b,off,none⟩)/\qV X w b off (tK k ns)
 | .ptr id off,v=>v=.pointer (some ⟨ρ id,off,none⟩)
 | .Ms id i,v=>v=.pointer (some ⟨ρ id,i,none⟩)/\∀blk k ns,hp id=some blk->blk.cont=.ints k ns->i<ns.length
 | .buf id n,v=>∃cap,v=.slice (some ⟨ρ id,0,none⟩) n cap/\n<=cap/\(∀blk k ns,hp id=some blk->blk.cont=.ints k ns->n=ns.length/\cap<=maxLen/\cap<=jM w (ρ id))/\∀blk cs,hp id=some blk->blk.cont=.cells cs->∃sz,cs.length=n*sz/\cap*sz<=jM w (ρ id)/\cap<=maxLen
 | .view id off n,v=>∃o' cap,v=.slice (some ⟨ρ id,o',none⟩) n cap/\n<=cap/\(0<n->o'=off)/\(off=0->o'=0)/\∀blk k ns,hp id=some blk->blk.cont=.ints k ns->off+n<=ns.length/\cap<=maxLen/\cap<=jM w (ρ id)
theorem tB{ρ:Nat->Nat}{hp:Nat->Option iM}{w:World}{id off n:Nat}{v:Value}(h:aAE ρ hp (fun _=>False) w (.view id off n) v) :
  ∃A cap,v=.slice A n cap/\n<=cap/\(0<n->A=some ⟨ρ id,off,none⟩)/\∀blk k ns,hp id=some blk->blk.cont=.ints k ns->off+n<=ns.length:=by
 obtain⟨o',cap,hv,hle,h1,_,h2⟩:=h;exact⟨_,cap,hv,hle,fun hn=>by rw[h1 hn],fun blk k ns h3 h4=>(h2 blk k ns h3 h4).1⟩
def Bf(ρ:Nat->Nat)(hp:Nat->Option iM)(X:Nat->Prop)(w:World):V->Value->Prop
 | .one l,v=>aAE ρ hp X w l v
 | .agg cs,v=>∃arr,v=.agg arr/\gF X w cs arr.toList
def vD(ρ:Nat->Nat)(hp:Nat->Option iM)(X:Nat->Prop)(w:World):A->Value->Prop
 | .v x,v=>Bf ρ hp X w x v
 | .Ix xs,v=>∃arr,v=.tuple arr/\xs.length=arr.size/\∀(i:Nat) (x:V) (u:Value),xs[i]?=some x->arr[i]?=some u->Bf ρ hp X w x u
 | .any,_=>True
def vC(X:Nat->Prop)(w:World):qU->Array Value->Prop
 | .ints k ns,arr=>ns.length<=arr.size/\∀(i:Nat) (n:Int),ns[i]?=some n->arr[i]?=some (Value.int k n)
 | .cells cs,arr=>cs.length<=arr.size/\∀(i:Nat) (s:S),cs[i]?=some s->∃u,arr[i]?=some u/\mZ X w s u
def Bg(X:Nat->Prop)(w:World)(g:Nat)(b:iM):Prop:=∃arr,w.heap[g]?=some (.cells arr b.e (0,0))/\vC X w b.cont arr
def aHU(ρ:Nat->Nat)(hp:Nat->Option iM)(b:Nat):Prop:=∃id blk,hp id=some blk/\ρ id=b
def XO(X:Nat->Prop)(ρ:Nat->Nat)(hp:Nat->Option iM)(b:Nat):Prop:=X b\/aHU ρ hp b
def GlobOk(glob:Nat->Option (IntKind×List Int))(X:Nat->Prop)(w:World):Prop :=
 ∀g k ns,glob g=some (k,ns)->g<w.heap.size/\¬X g/\qV X w g 0 (tK k ns)
structure Old where
 w:World
 M:Nat->Prop
 g:Nat->Nat
 aSD:∀b,M b->b<w.heap.size
def Old.Ed(o:Old)(b:Nat):Prop:=o.w.heap.size<=b\/o.M b
def Old.zC(o:Old)(n0 id b:Nat):Prop:=o.w.heap.size<=b\/(id<n0/\o.M b)
theorem Old.zC.Ed{o:Old}{n0 id b:Nat}(h:o.zC n0 id b):o.Ed b:=h.imp (fun h=>h) And.right
theorem Old.zC.new{o:Old}{n0 id b:Nat}(h:o.zC n0 id b)(hn:n0<=id):o.w.heap.size<=b:=h.elim (fun h=>h) fun h=>absurd h.1 (by omega)
def Old.bare(w:World):Old:=⟨w,fun _=>False,id,fun _ h=>h.elim⟩
structure Kept(o:Old)(w w':World):Prop where
 os:w'.os=w.os
 tape:w'.tape=w.tape
 output:w'.output=w.output
 size:w.heap.size<=w'.heap.size
 block:∀b,¬o.Ed b->w'.heap[b]?=w.heap[b]?
 room:∀b,o.M b->jM w' b=jM w b
theorem tT{w w':World}{b:Nat}(h:w'.heap[b]?=w.heap[b]?):jM w' b=jM w b:=by unfold jM;rw[h]
theorem Kept.refl(o:Old)(w:World):Kept o w w:=⟨rfl,rfl,rfl,bLR _,fun _ _=>rfl,fun _ _=>rfl⟩
theorem Kept.trans{o:Old}{a b c:World}(h:Kept o a b)(k:Kept o b c):Kept o a c :=
 ⟨k.os.trans h.os,k.tape.trans h.tape,k.output.trans h.output,bMN h.size k.size,fun i hi=>(k.block i hi).trans (h.block i hi),fun i hi=>(k.room i hi).trans (h.room i hi)⟩
theorem Old.Ps{o:Old}{b:Nat}(h:¬o.Ed b):b<o.w.heap.size:=by
 rcases bMG b o.w.heap.size with h1 |h1
 ·exact h1
 ·exact(h (.inl h1)).elim
theorem Kept.below{w w' aRS:World}(h:Kept (Old.bare w) w' aRS):Below w.heap.size w' aRS :=
 ⟨h.os,h.tape,h.output,h.size,fun k hk=>h.block k (fun hm=>by
  rcases hm with hm |hm
  ·exact absurd (show w.heap.size<=k from hm) (by omega)
  ·exact hm)⟩
structure gV(E:Env)(X:Nat->Prop)(w0:Old)(ρ:Nat->Nat)(al:Nat->Prop)(f:Nat->A)(hp:Nat->Option iM)(a:Act)(w:World):Prop where
 fr:∀t,vD ρ hp (XO X ρ hp) w (f t) (a.tmps.getD t undef)
 sz:a.tmps.size=E.nt
 nod:a.defers=[]
 blk:∀id b,hp id=some b->w0.zC E.n0 id (ρ id)/\Bg (XO X ρ hp) w (ρ id) b
 inj:∀id Sb b b',hp id=some b->hp Sb=some b'->ρ id=ρ Sb->id=Sb
 alh:∀id b,hp id=some b->al id
 alr:∀t id,id∈refs (f t)->al id
 below:Kept w0 w0.w w
 x0:∀b,X b->¬w0.Ed b
 glob:GlobOk E.glob X w0.w
 mg:∀g p,E.glob g=some p->¬w0.M g
 al0:∀id,id<E.n0->al id
 uK:∀id,id<E.n0->ρ id=w0.g id
structure fV(X:Nat->Prop)(w:World)(X':Nat->Prop)(w':World):Prop where
 size:w.heap.size<=w'.heap.size
 keep:∀b,b<w.heap.size->¬X b->w'.heap[b]?=w.heap[b]?/\¬X' b
theorem fV.refl(X:Nat->Prop)(w:World):fV X w X w:=⟨bLR _,fun _ _ h=>⟨rfl,h⟩⟩
theorem fV.trans{X X' bFN:Nat->Prop}{w w' aRS:World}(h:fV X w X' w')(h':fV X' w' bFN aRS):fV X w bFN aRS :=
 ⟨bMN h.size h'.size,fun b hb hx=>by
  obtain⟨e,vY⟩:=h.keep b hb hx;obtain⟨e',aYQ⟩:=h'.keep b (bMR hb h.size) vY;exact⟨e'.trans e,aYQ⟩⟩
section
variable {X X':Nat->Prop} {w w':World}
theorem fV.cell(h:fV X w X' w'){b off:Nat}(hb:b<w.heap.size)(hx:¬X b):w'.cell? ⟨b,off,none⟩=w.cell? ⟨b,off,none⟩ :=
 World.cell?_of_block (a:=⟨b,off,none⟩) (h.keep b hb hx).1
theorem mZ.later(h:fV X w X' w'){s:S}{v:Value}(r:mZ X w s v):mZ X' w' s v:=by
 cases s with
 |sc u=>exact r
 |bot=>exact r
 |ints k ns =>
  obtain⟨A,c,hv,hle,hc⟩:=r;refine⟨A,c,hv,hle,fun i n hn=>?_⟩;obtain⟨b,off,hA,hb,hx,aEC⟩:=hc i n hn;exact⟨b,off,hA,bMR hb h.size,(h.keep b hb hx).2,(h.cell hb hx).trans aEC⟩
theorem mZ.one{s:S}{v:Value}(r:mZ X w s v):v.oneCell'=true:=by
 cases s with
 |sc u=>obtain⟨rfl,h⟩:=r;exact h
 |bot=>exact r
 |ints k ns=>obtain⟨A,c,rfl,_⟩:=r;rfl
theorem gF.later(h:fV X w X' w'){cs:List S}{vs:List Value}(r:gF X w cs vs):gF X' w' cs vs :=
 ⟨r.1,fun i s u hs hu=>(r.2 i s u hs hu).later h⟩
theorem qV.later(h:fV X w X' w'){b off:Nat}{cs:List S}(r:qV X w b off cs):qV X' w' b off cs:=by
 intro i s hs;obtain⟨hb,hx,u,hu,hr⟩:=r i s hs;exact⟨bMR hb h.size,(h.keep b hb hx).2,u,(h.cell hb hx).trans hu,hr.later h⟩
theorem vC.later(h:fV X w X' w'){c:qU}{arr:Array Value}(r:vC X w c arr):vC X' w' c arr:=by
 cases c with
 |ints k ns=>exact r
 |cells cs=>exact⟨r.1,fun i s hs=>let ⟨u,hu,hr⟩:=r.2 i s hs;⟨u,hu,hr.later h⟩⟩
end
def sameShape(b b':iM):Prop:=(∀k ns,b'.cont=.ints k ns->∃k' lC,b.cont=.ints k' lC/\lC.length=ns.length)/\∀cs,b'.cont=.cells cs->∃Hr,b.cont=.cells Hr/\Hr.length=cs.length
theorem sameShape.refl(b:iM):sameShape b b:=⟨fun k ns e=>⟨k,ns,e,rfl⟩,fun cs e=>⟨cs,e,rfl⟩⟩
section
variable {ρ ρ':Nat->Nat} {hp hp':Nat->Option iM} {X X':Nat->Prop} {w w':World} {al:Nat->Prop}
def sO(ρ ρ':Nat->Nat)(hp hp':Nat->Option iM)(w w':World)(al:Nat->Prop):Prop :=
 ∀id,al id->ρ' id=ρ id/\∀b',hp' id=some b'->∃b,hp id=some b/\sameShape b b'/\jM w' (ρ id)=jM w (ρ id)
theorem sO.refl(ρ:Nat->Nat)(hp:Nat->Option iM)(w:World)(al:Nat->Prop):sO ρ ρ hp hp w w al :=
 fun _ _=>⟨rfl,fun b h=>⟨b,h,sameShape.refl _,rfl⟩⟩
theorem aAE.later(h:fV X w X' w')(hh:sO ρ ρ' hp hp' w w' al){l:L}{v:Value}(oZ:∀id∈refsL l,al id)(r:aAE ρ hp X w l v):aAE ρ' hp' X' w' l v:=by
 cases l with
 |s x=>exact mZ.later h r
 |rows sz n f =>
  obtain⟨A,c,hv,hle,hc⟩:=r;refine⟨A,c,hv,hle,fun i hi=>?_⟩;obtain⟨hl,b,off,hA,Qn⟩:=hc i hi;exact⟨hl,b,off,hA,Qn.later h⟩
 |Jt cs=>obtain⟨b,off,hv,hc⟩:=r;exact⟨b,off,hv,hc.later h⟩
 |Nw k ns=>obtain⟨b,off,hv,hc⟩:=r;exact⟨b,off,hv,hc.later h⟩
 |ptr id off =>
  have hr:v=.pointer (some ⟨ρ id,off,none⟩):=r;show v=.pointer (some ⟨ρ' id,off,none⟩);rw[(hh id (oZ id (by simp[refsL]))).1];exact hr
 |Ms id i =>
  obtain⟨hv,hc⟩:=r;obtain⟨e,hb⟩:=hh id (oZ id (by simp[refsL]));refine⟨by rw[e];exact hv,fun b' k ns h1 h2=>?_⟩;obtain⟨b,h3,h4,_⟩:=hb b' h1;obtain⟨k',lC,h5,h6⟩:=h4.1 k ns h2;have:=hc b k' lC h3 h5;omega
 |buf id n =>
  obtain⟨cap,hv,hle,hc,aMD⟩:=r;obtain⟨e,hb⟩:=hh id (oZ id (by simp[refsL]));refine⟨cap,by rw[e];exact hv,hle,fun b' k ns h1 h2=>?_,fun b' cs h1 h2=>?_⟩
  ·obtain⟨b,h3,h4,h7⟩:=hb b' h1;obtain⟨k',lC,h5,h6⟩:=h4.1 k ns h2;have:=hc b k' lC h3 h5;rw[e,h7];exact⟨by omega,this.2⟩
  ·obtain⟨b,h3,h4,h7⟩:=hb b' h1;obtain⟨Hr,h5,h6⟩:=h4.2 cs h2;obtain⟨sz,h8,h9⟩:=aMD b Hr h3 h5;rw[e,h7];exact⟨sz,by omega,h9⟩
 |view id off n =>
  obtain⟨o',cap,hv,hle,aDS,zF,hc⟩:=r;obtain⟨e,hb⟩:=hh id (oZ id (by simp[refsL]));refine⟨o',cap,by rw[e];exact hv,hle,aDS,zF,fun b' k ns h1 h2=>?_⟩;obtain⟨b,h3,h4,h7⟩:=hb b' h1;obtain⟨k',lC,h5,h6⟩:=h4.1 k ns h2;have:=hc b k' lC h3 h5;rw[e,h7];exact⟨by omega,this.2⟩
theorem Bf.later(h:fV X w X' w')(hh:sO ρ ρ' hp hp' w w' al){x:V}{v:Value}(oZ:∀id∈refsV x,al id)(r:Bf ρ hp X w x v):Bf ρ' hp' X' w' x v:=by
 cases x with
 |one l=>exact aAE.later h hh oZ r
 |agg cs=>obtain⟨arr,hv,hr⟩:=r;exact⟨arr,hv,hr.later h⟩
theorem vD.later(h:fV X w X' w')(hh:sO ρ ρ' hp hp' w w' al){x:A}{v:Value}(oZ:∀id∈refs x,al id)(r:vD ρ hp X w x v):vD ρ' hp' X' w' x v:=by
 cases x with
 |v x=>exact Bf.later h hh oZ r
 |any=>trivial
 |Ix xs =>
  obtain⟨arr,hv,hl,hr⟩:=r;refine⟨arr,hv,hl,fun i x u hx hu=>Bf.later h hh (fun id tM=>oZ id ?_) (hr i x u hx hu)⟩;exact List.mem_flatMap.2 ⟨x,bMA hx,tM⟩
end
theorem gV.next{E:Env}{X:Nat->Prop}{w0:Old}{ρ ρ':Nat->Nat}{al al':Nat->Prop}{fr:Nat->A}{hp hp':Nat->Option iM}{a:Act}{w w':World}{o:Oper}{x:A}{v:Value}
  (h:gV E X w0 ρ al fr hp a w) (hd:gY E.nt o=true)
  (hl:fV (XO X ρ hp) w (XO X ρ' hp') w') (hb:Kept w0 w w')
  (hh:sO ρ ρ' hp hp' w w' al)
  (Eh:∀id b,hp' id=some b->w0.zC E.n0 id (ρ' id)/\Bg (XO X ρ' hp') w' (ρ' id) b)
  (wR:∀id Sb b b',hp' id=some b->hp' Sb=some b'->ρ' id=ρ' Sb->id=Sb)
  (oZ:∀id,al id->al' id) (aOW:∀id b,hp' id=some b->al' id)
  (hx:vD ρ' hp' (XO X ρ' hp') w' x v) (aSU:∀id∈refs x,al' id) :
  gV E X w0 ρ' al' (yZ o x fr) hp' (a.put o.dst v) w':=by
 have key:∀t,vD ρ' hp' (XO X ρ' hp') w' (yZ o x fr t) ((a.put o.dst v).tmps.getD t undef)/\∀id∈refs (yZ o x fr t),al' id:=by
  intro t;unfold yZ Act.put;cases Zf:o.dst with
  |none=>exact⟨vD.later hl hh (h.alr t) (h.fr t),fun id tM=>oZ id (h.alr t id tM)⟩
  |some d =>
   have iN:d<a.tmps.size:=by rw[h.sz];unfold gY at hd;rw[Zf]at hd;simpa using hd
   simp only[xO];cases bEQ:bLS t d with
   |true =>
    obtain rfl:t=d:=bMF bEQ;simp only[cond_true];refine⟨?_,aSU⟩;have e:(a.tmps.setIfInBounds t v).getD t undef=v:=by simp[Array.getD,iN]
    rw[e];exact hx
   |false =>
    have Dq:t≠d:=bNV bEQ;simp only[cond_false];have e:(a.tmps.setIfInBounds d v).getD t undef=a.tmps.getD t undef:=by
     simp only[Array.getD_eq_getD_getElem?,Array.getElem?_setIfInBounds];rw[if_neg (fun h=>Dq h.symm)]
    rw[e];exact⟨vD.later hl hh (h.alr t) (h.fr t),fun id tM=>oZ id (h.alr t id tM)⟩
 exact { fr:=fun t=>(key t).1,sz:=by unfold Act.put;cases o.dst <;> simp[h.sz],nod:=by unfold Act.put;cases o.dst <;> exact h.nod,blk:=Eh,inj:=wR,alh:=aOW,alr:=fun t=>(key t).2,below:=h.below.trans hb,x0:=h.x0,glob:=h.glob,mg:=h.mg,al0:=fun id hi=>oZ id (h.al0 id hi),uK:=fun id hi=>(hh id (h.al0 id hi)).1.trans (h.uK id hi) }
theorem gV.pure{E:Env}{X:Nat->Prop}{w0:Old}{ρ:Nat->Nat}{al:Nat->Prop}{fr:Nat->A}{hp:Nat->Option iM}{a:Act}{w:World}{o:Oper}{x:A}{v:Value}
  (h:gV E X w0 ρ al fr hp a w) (hd:gY E.nt o=true) (hx:vD ρ hp (XO X ρ hp) w x v) (aSU:∀id∈refs x,al id) :
  gV E X w0 ρ al (yZ o x fr) hp (a.put o.dst v) w :=
 h.next hd (fV.refl _ _) (Kept.refl _ _) (sO.refl _ _ _ _) h.blk h.inj (fun _ h=>h) h.alh hx aSU
theorem gV.Nc{E:Env}{X:Nat->Prop}{w0:Old}{ρ:Nat->Nat}{al:Nat->Prop}{fr:Nat->A}{hp:Nat->Option iM}{a:Act}{w:World}
  (h:gV E X w0 ρ al fr hp a w):GlobOk E.glob (XO X ρ hp) w:=by
 intro g k ns hg;obtain⟨h1,h2,h3⟩:=h.glob g k ns hg;have hm:¬w0.Ed g:=by
  rintro (hm |hm)
  ·omega
  ·exact h.mg g _ hg hm
 have hx:¬XO X ρ hp g:=by
  rintro (ho |⟨id,b',e1,e2⟩)
  ·exact h2 ho
  ·exact hm (e2▸(h.blk id b' e1).1.Ed)
 refine⟨bMR h1 h.below.size,hx,fun i s hs=>?_⟩;obtain⟨_,_,u,hu,hr⟩:=h3 i s hs;refine⟨bMR h1 h.below.size,hx,u,(World.cell?_of_block (a:=⟨g,0+i,none⟩) (h.below.block g hm)).trans hu,?_⟩;unfold tK at hs;rw[bLV]at hs;obtain⟨m,_,rfl⟩:=Option.map_eq_some_iff.1 hs;exact hr
theorem gV.ev{E:Env}{X:Nat->Prop}{w0:Old}{ρ:Nat->Nat}{al:Nat->Prop}{fr:Nat->A}{hp:Nat->Option iM}{a:Act}{w:World}
  (h:gV E X w0 ρ al fr hp a w) (x:Operand):vD ρ hp (XO X ρ hp) w (evA E fr x) (a.eval x)/\∀id∈refs (evA E fr x),al id:=by
 cases x with
 |tmp t=>exact⟨h.fr t,h.alr t⟩
 |const v =>
  simp only[evA];split
  ·rename_i hv;exact⟨⟨rfl,hv⟩,by simp[refs,refsV,refsL]⟩
  ·exact⟨trivial,by simp[refs]⟩
 |func f=>exact⟨⟨rfl,rfl⟩,by simp[evA,refs,refsV,refsL]⟩
 |global g =>
  simp only[evA];cases hg:E.glob g with
  |none=>exact⟨trivial,by simp[refs]⟩
  |some p =>
   obtain⟨k,ns⟩:=p;refine⟨⟨g,0,rfl,?_⟩,by simp[refs,refsV,refsL]⟩;exact(h.Nc g k ns hg).2.2
end AI
namespace AI
open Go Go.RowKit
theorem Cv{R:Type}(op:BinOp)(x y:Value)(K:Value->Option R):binK op x y K=(binK op x y some).bind K:=by
 unfold binK;split
 ·split <;> (repeat' split) <;> first |rfl | (simp;done)
 ·split <;> (repeat' split) <;> first |rfl | (generalize Ieee.Format.add _ _ _=m;cases m <;> rfl) | (generalize Ieee.Format.sub _ _ _=m;cases m <;> rfl) | (generalize Ieee.Format.mul _ _ _=m;cases m <;> rfl) | (generalize Ieee.Format.div _ _ _=m;cases m <;> rfl)
 ·split <;> rfl
 ·rfl
theorem Ft{R:Type}(op:UnOp)(x:Value)(K:Value->Option R):unK op x K=(unK op x some).bind K:=by
 unfold unK;split <;> simp
theorem zH{R:Type}(k:TK)(x:Value)(K:Value->Option R):convK k x K=(convK k x some).bind K:=by
 unfold convK;split
 ·simp
 ·simp
 ·rename_i s b;cases ((FloatKind.decode s b).toInt .zero)with
  |none=>rfl
  |some n=>simp only[bNI];split <;> simp
 ·split <;> simp
 ·rfl
theorem fdiv_pow(a:Int)(n:Nat):a.fdiv (2^n)=a/((2^n:Nat):Int):=by
 rw[Int.fdiv_eq_ediv_of_nonneg _ (by exact Int.le_of_lt (Int.pow_pos (by omega)))];simp
theorem Qv{P:Program}(op:BinOp)(t:TypeId)(x y:Operand)(k k':IntKind)(a b:Int)(w:World):(eqGuard op t x y (.int k a) (.int k' b)).run P w=.ok () w:=by
 unfold eqGuard;split <;> rfl
theorem Jp{P:Program}(op:BinOp)(t:TypeId)(x y:Operand)(k k':FloatKind)(a b:Nat)(w:World):(eqGuard op t x y (.float k a) (.float k' b)).run P w=.ok () w:=by
 unfold eqGuard;split <;> rfl
theorem Ni{P:Program}(op:BinOp)(t:TypeId)(x y:Operand)(a b:Bool)(w:World):(eqGuard op t x y (.bool a) (.bool b)).run P w=.ok () w:=by
 unfold eqGuard;split <;> rfl
theorem aKN{P:Program}(op:BinOp)(t:TypeId)(k k':IntKind)(a b:Int)(r:Value)(w:World)(h:binK op (.int k a) (.int k' b) some=some r) :
  (binOp op t (.int k a) (.int k' b)).run P w=.ok r w/\r.oneCell'=true:=by
 cases op <;> simp only[binK]at h
 case shl =>
  split at h <;> cases h;rename_i hb;simp[binOp,Op.shift,hb,Value.oneCell']
 case shr =>
  split at h <;> cases h;rename_i hb;simp[binOp,Op.shift,fdiv_pow,hb,Value.oneCell']
 case quo =>
  split at h <;> try (cases h;done)
  split at h <;> cases h;rename_i hk hb;simp[binOp,Op.intDiv,hk,hb,Value.oneCell']
 case rem =>
  split at h <;> try (cases h;done)
  split at h <;> cases h;rename_i hk hb;simp[binOp,Op.intDiv,hk,hb,Value.oneCell']
 all_goals
  split at h <;> cases h;rename_i hk;subst hk;simp[binOp,Op.intArith,Op.intCmp,Op.intBits,pA,bitsI0,Value.oneCell']
theorem aAC{P:Program}(op:BinOp)(t:TypeId)(k k':FloatKind)(a b:Nat)(r:Value)(w:World)(h:binK op (.float k a) (.float k' b) some=some r) :
  (binOp op t (.float k a) (.float k' b)).run P w=.ok r w/\r.oneCell'=true:=by
 cases op <;> simp only[binK]at h
 case add =>
  split at h <;> try (cases h;done)
  rename_i hk;subst hk;obtain⟨m,hm,hr⟩:=Option.bind_eq_some_iff.1 h;cases hr;simp[binOp,Op.floatArith,hm,Value.oneCell']
 case sub =>
  split at h <;> try (cases h;done)
  rename_i hk;subst hk;obtain⟨m,hm,hr⟩:=Option.bind_eq_some_iff.1 h;cases hr;simp[binOp,Op.floatArith,hm,Value.oneCell']
 case mul =>
  split at h <;> try (cases h;done)
  rename_i hk;subst hk;obtain⟨m,hm,hr⟩:=Option.bind_eq_some_iff.1 h;cases hr;simp[binOp,Op.floatArith,hm,Value.oneCell']
 case quo =>
  split at h <;> try (cases h;done)
  rename_i hk;subst hk;obtain⟨m,hm,hr⟩:=Option.bind_eq_some_iff.1 h;cases hr;simp[binOp,Op.floatArith,hm,Value.oneCell']
 all_goals (try (cases h;done))
 all_goals
  split at h <;> cases h;rename_i hk;subst hk;simp[binOp,Op.floatCmp,Value.oneCell']
theorem aAB{P:Program}(op:BinOp)(t:TypeId)(x y:Operand)(a b r:Value)(w:World)(hb:∀q,a=.bool q->P.underlying t=some .bool)(h:binK op a b some=some r) :
  (do eqGuard op t x y a b;binOp op t a b:Sem Value).run P w=.ok r w/\r.oneCell'=true:=by
 cases a with
 |int k a =>
  cases b with
  |int k' b=>rw[Sem.run_bind,Qv];exact aKN op t k k' a b r w h
  |_=>simp[binK]at h
 |float k a =>
  cases b with
  |float k' b=>rw[Sem.run_bind,Jp];exact aAC op t k k' a b r w h
  |_=>simp[binK]at h
 |bool a =>
  cases b with
  |bool b =>
   rw[Sem.run_bind,Ni];have ht:=hb a rfl;cases op <;> simp only[binK]at h <;> cases h
   ·exact⟨run_eql_bool w t a b ht,rfl⟩
   ·refine⟨?_,rfl⟩;rw[Result.andThen_ok];simp only[binOp];rw[Sem.run_bind,run_equal_bool w t a b ht];rfl
  |_=>simp[binK]at h
 |_=>simp[binK]at h
theorem aBG{P:Program}(op:UnOp)(a r:Value)(w:World)(h:unK op a some=some r) :
  (Op.unary op a).run P w=.ok r w/\r.oneCell'=true:=by
 unfold unK at h;split at h <;> cases h <;> simp[Op.unary,Op.intArith,Op.intBits,pA,bitsI0,Value.oneCell']
end AI
namespace AI
open Go Go.RowKit
section
variable {E:Env} {X:Nat->Prop} {w0:Old} {ρ ρ':Nat->Nat} {al al':Nat->Prop} {fr:Nat->A} {hp hp':Nat->Option iM} {a:Act} {w w':World}
theorem gV.change(h:gV E X w0 ρ al fr hp a w)
  (hl:fV (XO X ρ hp) w (XO X ρ' hp') w') (hb:Kept w0 w w')
  (hh:sO ρ ρ' hp hp' w w' al)
  (Eh:∀id b,hp' id=some b->w0.zC E.n0 id (ρ' id)/\Bg (XO X ρ' hp') w' (ρ' id) b)
  (wR:∀id Sb b b',hp' id=some b->hp' Sb=some b'->ρ' id=ρ' Sb->id=Sb)
  (oZ:∀id,al id->al' id) (aOW:∀id b,hp' id=some b->al' id):gV E X w0 ρ' al' fr hp' a w' :=
 { fr:=fun t=>vD.later hl hh (h.alr t) (h.fr t),sz:=h.sz,nod:=h.nod,blk:=Eh,inj:=wR,alh:=aOW,alr:=fun t id tM=>oZ id (h.alr t id tM),below:=h.below.trans hb,x0:=h.x0,glob:=h.glob,mg:=h.mg,al0:=fun id hi=>oZ id (h.al0 id hi),uK:=fun id hi=>(hh id (h.al0 id hi)).1.trans (h.uK id hi) }
def Cons(u:nV):Prop:=∀p∈u,p.2=none
theorem jB(u v:nV)(hp:Nat->Option iM):applyUps (u ++ v) hp=applyUps v (applyUps u hp):=by
 induction u generalizing hp with
 |nil=>rfl
 |cons p u ih=>obtain⟨i,b⟩:=p;simp only[bNJ,applyUps];exact ih _
theorem bG{α:Type}(f:Nat->α)(d:Nat)(x:α):xO f d x d=x:=by simp[xO]
theorem eF{α:Type}(f:Nat->α){d i:Nat}(x:α)(h:i≠d):xO f d x i=f i:=by
 have:bLS i d=false:=by cases hb:bLS i d with
  |false=>rfl
  |true=>exact absurd (bMF hb) h
 simp[xO,this]
theorem fL{u:nV}(hu:Cons u){hp:Nat->Option iM}{i:Nat}{b:iM}(h:applyUps u hp i=some b):hp i=some b:=by
 induction u generalizing hp with
 |nil=>exact h
 |cons p u ih =>
  obtain⟨j,c⟩:=p;have hc:c=none:=hu (j,c) (by simp);subst hc;have:=ih (fun p hp=>hu p (by simp[hp])) h
  by_cases aQV:i=j
  ·subst aQV;rw[bG]at this;cases this
  ·rwa [eF _ _ aQV]at this
theorem Jz{u:nV}(hu:Cons u){hp:Nat->Option iM}{i:Nat}(h:(i,none)∈u):applyUps u hp i=none:=by
 induction u generalizing hp with
 |nil=>cases h
 |cons p u ih =>
  obtain⟨j,c⟩:=p;have hc:c=none:=hu (j,c) (by simp);subst hc;have Mu:Cons u:=fun p hp=>hu p (by simp[hp])
  rcases List.mem_cons.1 h with h |h
  ·cases h;cases hq:applyUps ((i,none) :: u) hp i with
   |none=>rfl
   |some b=>have:=fL Mu (hp:=xO hp i none) hq;rw[bG]at this;cases this
  ·exact ih Mu h
theorem aHU.of_cons{u:nV}(hu:Cons u){b:Nat}(h:aHU ρ (applyUps u hp) b):aHU ρ hp b:=by
 obtain⟨id,bl,h1,h2⟩:=h;exact⟨id,bl,fL hu h1,h2⟩
theorem fV.cons{u:nV}(hu:Cons u):fV (XO X ρ hp) w (XO X ρ (applyUps u hp)) w :=
 ⟨bLR _,fun _ _ hx=>⟨rfl,fun h=>hx (h.imp id (aHU.of_cons hu))⟩⟩
theorem Bg.later{X X':Nat->Prop}{g:Nat}{b:iM}(h:fV X w X' w')(hg:w'.heap[g]?=w.heap[g]?)(r:Bg X w g b):Bg X' w' g b:=by
 obtain⟨arr,h1,h2⟩:=r;exact⟨arr,hg.trans h1,h2.later h⟩
theorem gV.cons(h:gV E X w0 ρ al fr hp a w){u:nV}(hu:Cons u):gV E X w0 ρ al fr (applyUps u hp) a w :=
 h.change (fV.cons hu) (Kept.refl _ _)
  (fun _ _=>⟨rfl,fun b' vL=>⟨b',fL hu vL,sameShape.refl _,rfl⟩⟩)
  (fun id b hb=>⟨(h.blk id b (fL hu hb)).1,(h.blk id b (fL hu hb)).2.later (fV.cons hu) rfl⟩)
  (fun id Sb b b' h1 h2 e=>h.inj id Sb b b' (fL hu h1) (fL hu h2) e)
  (fun _ h=>h) (fun id b hb=>h.alh id b (fL hu hb))
theorem Bg.lt{X:Nat->Prop}{g:Nat}{b:iM}(r:Bg X w g b):g<w.heap.size:=by
 obtain⟨arr,h1,_⟩:=r;exact(Array.getElem?_eq_some_iff.1 h1).1
theorem tP(w:World)(o:Obj):(w.alloc o).heap[w.heap.size]?=some o:=heap_alloc_new w o
theorem tN(w:World)(o:Obj){k:Nat}(h:k<w.heap.size):(w.alloc o).heap[k]?=w.heap[k]?:=Below.heap_alloc w o k h
theorem gV.gX(h:gV E X w0 ρ al fr hp a w){id:Nat}{b:iM}(hb:hp id=some b):ρ id<w.heap.size:=(h.blk id b hb).2.lt
theorem Kept.alloc{o:Old}{w:World}(h:o.w.heap.size<=w.heap.size)(x:Obj):Kept o w (w.alloc x) :=
 ⟨rfl,rfl,rfl,by simp,fun _ hb=>tN w x (by have:=Old.Ps hb;omega),fun b hb=>tT (tN w x (by have:=o.aSD b hb;omega))⟩
theorem gV.alloc(h:gV E X w0 ρ al fr hp a w){id:Nat}(tM:¬al id)(oZ:∀i,al i->al' i)(pQ:al' id)(e:TypeId)(c:qU)(arr:Array Value)(hc:vC (XO X ρ hp) w c arr) :
  gV E X w0 (xO ρ id w.heap.size) al' fr (xO hp id (some ⟨e,c⟩)) a (w.alloc (.cells arr e)):=by
 have Dq:∀i,al i->i≠id:=fun i hi e=>tM (e▸hi)
 have hl:fV (XO X ρ hp) w (XO X (xO ρ id w.heap.size) (xO hp id (some ⟨e,c⟩))) (w.alloc (.cells arr e)):=by
  refine⟨by simp,fun b hb hx=>⟨tN w _ hb,fun ho=>?_⟩⟩;rcases ho with ho |⟨i,bl,h1,h2⟩
  ·exact hx (.inl ho)
  ·by_cases hi:i=id
   ·subst hi;rw[bG]at h2;omega
   ·rw[eF _ _ hi]at h1 h2;exact hx (.inr ⟨i,bl,h1,h2⟩)
 refine h.change hl (Kept.alloc h.below.size _) ?_ ?_ ?_ oZ ?_
 ·intro i hi;refine⟨eF _ _ (Dq i hi),fun b' vL=>?_⟩;rw[eF _ _ (Dq i hi)]at vL;refine⟨b',vL,sameShape.refl _,?_⟩;unfold jM;rw[tN w _ (h.gX vL)]
 ·intro i b hb
  by_cases hi:i=id
  ·subst hi;rw[bG]at hb;cases hb;refine⟨by rw[bG];exact .inl h.below.size,arr,by rw[bG];exact tP w _,hc.later hl⟩
  ·rw[eF _ _ hi]at hb;rw[eF _ _ hi];exact⟨(h.blk i b hb).1,(h.blk i b hb).2.later hl (tN w _ (h.gX hb))⟩
 ·intro i i' b b' h1 h2 e
  by_cases hi:i=id
  ·by_cases aAU:i'=id
   ·rw[hi,aAU]
   ·subst hi;rw[eF _ _ aAU]at h2;rw[bG,eF _ _ aAU]at e;have:=h.gX h2;omega
  ·by_cases aAU:i'=id
   ·subst aAU;rw[eF _ _ hi]at h1;rw[bG,eF _ _ hi]at e;have:=h.gX h1;omega
   ·rw[eF _ _ hi]at h1 e;rw[eF _ _ aAU]at h2 e;exact h.inj i i' b b' h1 h2 e
 ·intro i b hb
  by_cases hi:i=id
  ·subst hi;exact pQ
  ·rw[eF _ _ hi]at hb;exact oZ i (h.alh i b hb)
theorem gV.setRow(h:gV E X w0 ρ al fr hp a w){id:Nat}{b:iM}(hb:hp id=some b)(c:qU)(arr:Array Value)(hs:sameShape b ⟨b.e,c⟩)(pO:jM w (ρ id)=arr.size)(hc:vC (XO X ρ hp) w c arr) :
  gV E X w0 ρ al fr (xO hp id (some ⟨b.e,c⟩)) a (w.setRow (ρ id) arr):=by
 obtain⟨Hj,bBW,hg,_⟩:=h.blk id b hb;have pQ:(w.setRow (ρ id) arr).heap[ρ id]?=some (.cells arr b.e (0,0)):=setRow_heap w (ρ id) bBW arr b.e _ hg;have hold:∀k,k≠ρ id->(w.setRow (ρ id) arr).heap[k]?=w.heap[k]?:=fun k hk=>setRow_other w (ρ id) k arr (fun e=>hk e)
 have pP:∀b',aHU ρ (xO hp id (some ⟨b.e,c⟩)) b'->aHU ρ hp b':=by
  rintro b' ⟨i,bl,h1,h2⟩
  by_cases hi:i=id
  ·subst hi;exact⟨i,b,hb,h2⟩
  ·rw[eF _ _ hi]at h1;exact⟨i,bl,h1,h2⟩
 have hl:fV (XO X ρ hp) w (XO X ρ (xO hp id (some ⟨b.e,c⟩))) (w.setRow (ρ id) arr):=by
  refine⟨by simp[World.setRow],fun b' vL hx=>⟨hold b' (fun e=>hx (.inr ⟨id,b,hb,e.symm⟩)),fun ho=>hx (ho.imp (fun h=>h) (pP b'))⟩⟩
 have wR:∀i b',hp i=some b'->i≠id->ρ i≠ρ id:=fun i b' hi Dq e=>Dq (h.inj i id b' b hi hb e)
 refine h.change hl ⟨rfl,rfl,rfl,by simp[World.setRow],fun k hk=>hold k (fun e=>hk (e▸Hj.Ed)),fun k _=>by
  by_cases hk:k=ρ id
  ·rw[hk,pO];unfold jM;rw[pQ]
  ·exact tT (hold k hk)⟩ ?_ ?_ ?_ (fun _ h=>h) ?_
 ·intro i _;refine⟨rfl,fun b' vL=>?_⟩
  by_cases hi:i=id
  ·subst hi;rw[bG]at vL;cases vL;refine⟨b,hb,hs,?_⟩;rw[pO];unfold jM;rw[pQ]
  ·rw[eF _ _ hi]at vL;refine⟨b',vL,sameShape.refl _,?_⟩;unfold jM;rw[hold _ (wR i b' vL hi)]
 ·intro i b' vL
  by_cases hi:i=id
  ·subst hi;rw[bG]at vL;cases vL;exact⟨Hj,arr,pQ,hc.later hl⟩
  ·rw[eF _ _ hi]at vL;exact⟨(h.blk i b' vL).1,(h.blk i b' vL).2.later hl (hold _ (wR i b' vL hi))⟩
 ·intro i i' b1 b2 h1 h2 e;have f:∀i b1,xO hp id (some ⟨b.e,c⟩) i=some b1->∃b2,hp i=some b2:=by
   intro i b1 h1
   by_cases hi:i=id
   ·subst hi;exact⟨b,hb⟩
   ·rw[eF _ _ hi]at h1;exact⟨b1,h1⟩
  obtain⟨c1,Zi⟩:=f i b1 h1;obtain⟨c2,aRF⟩:=f i' b2 h2;exact h.inj i i' c1 c2 Zi aRF e
 ·intro i b1 h1
  by_cases hi:i=id
  ·subst hi;exact h.alh i b hb
  ·rw[eF _ _ hi]at h1;exact h.alh i b1 h1
theorem gV.Qp(h:gV E X w0 ρ al fr hp a w){id:Nat}{b:iM}(hb:hp id=some b){u:nV}(hu:Cons u)(tM:(id,none)∈u):¬XO X ρ (applyUps u hp) (ρ id):=by
 rintro (hx |⟨i,bl,h1,h2⟩)
 ·exact h.x0 _ hx (h.blk id b hb).1.Ed
 ·have:=h.inj i id bl b (fL hu h1) hb h2;subst this;rw[Jz hu tM]at h1;cases h1
theorem gV.uV(h:gV E X w0 ρ al fr hp a w){id:Nat}{e:TypeId}{k:IntKind}{ns:List Int}(hb:hp id=some ⟨e,.ints k ns⟩){i:Nat}{n:Int}(hi:ns[i]?=some n):w.cell? ⟨ρ id,i,none⟩=some (.int k n):=by
 obtain⟨_,arr,hg,hc⟩:=h.blk id _ hb;rw[cell_of_row w (ρ id) i arr e (0,0) hg];exact hc.2 i n hi
theorem sW(h:gV E X w0 ρ al fr hp a w){x:A}{v:Value}(hr:vD ρ hp (XO X ρ hp) w x v){cs:List S}{u:nV}(hc:cellsOf hp x=some (cs,u)) :
  Cons u/\gF (XO X ρ (applyUps u hp)) w cs v.cells.toList:=by
 unfold cellsOf at hc;split at hc
 ·cases hc;obtain⟨arr,rfl,hs⟩:=hr;exact⟨(fun p hp=>by cases hp),hs⟩
 ·cases hc;rename_i x;have hr:mZ _ w x v:=hr;refine⟨(fun p hp=>by cases hp),?_⟩;have e:v.cells.toList=[v]:=by
   have:=hr.one;cases v <;> first |rfl | (simp[Value.oneCell']at this)
  rw[e];refine⟨rfl,fun i s u hs hu=>?_⟩
  match i with
  |0=>simp at hs hu;subst hs;subst hu;exact hr
  |i+1=>simp at hs
 ·split at hc <;> cases hc;rename_i id n o e k ns hb;obtain⟨cap,rfl,yH,bAQ,_⟩:=hr;have hu:Cons [(id,none)]:=fun p hp=>by simp at hp;subst hp;rfl
  refine⟨hu,rfl,fun i s u hs Mu=>?_⟩
  match i with
  |0 =>
   simp[Value.cells]at hs Mu;subst hs;subst Mu;obtain⟨hn,_⟩:=bAQ _ k ns hb rfl;subst hn;refine⟨_,cap,rfl,yH,fun i n hi=>⟨ρ id,0,rfl,h.gX hb,h.Qp hb hu (by simp),?_⟩⟩;rw[bLT];exact h.uV hb hi
  |i+1=>simp at hs
 ·split at hc <;> cases hc;rename_i id off n o e k ns hb;obtain⟨A0,cap,rfl,yH,hA,hlen⟩:=tB hr;have hu:Cons [(id,none)]:=fun p hp=>by simp at hp;subst hp;rfl
  have hl:=hlen _ k ns hb rfl;refine⟨hu,rfl,fun i s u hs Mu=>?_⟩
  match i with
  |0 =>
   simp[Value.cells]at hs Mu;subst hs;subst Mu;refine⟨A0,cap,by simp;omega,by simp;omega,fun i m hi=>?_⟩;have Jc:i<n:=by
    have:=(List.getElem?_eq_some_iff.1 hi).1;simp at this;omega
   refine⟨ρ id,off,hA (by omega),h.gX hb,h.Qp hb hu (by simp),?_⟩;refine h.uV hb ?_;rw[bLW Jc,bMD]at hi;exact hi
  |i+1=>simp at hs
 ·cases hc
end
end AI
namespace AI
open Go Go.RowKit
def pM:TypeDesc->Bool
 | .struct _ | .array _ _=>true
 |_=>false
def Iq(P:Program):TK->TypeDesc->Prop
 | .bool,d=>d=.bool
 | .int k,d=>d=.int k
 | .float k,d=>d=.float k
 | .other,d=>pM d=false
 | .struct fs,d=>∃fields,d=.struct fields/\fs.length=fields.size/\∀(i:Nat) (f:Field),fields[i]?=some f->∃fi fd,P.info? f.type=some fi/\P.underlying f.type=some fd/\fs[i]?=some (f.offset,fi.size,pM fd)
 | .arr len nQ g,d=>∃e ei ed,d=.array len e/\P.info? e=some ei/\ei.size=nQ/\P.underlying e=some ed/\pM ed=g
 | .slice e,d=>d=.slice e
 | .str,d=>d=.string
def eqChkF(P:Program):Nat->List Field->List IntKind->Bool
 |_,[],[]=>true
 |i,f :: r,k :: ks=>(f.name != "_")&&(bLS f.offset i&&((match P.underlying f.type with
  |some (.int k')=>decide (k'=k)
  |_=>false)&&eqChkF P (i+1) r ks))
 |_,_,_=>false
def aQL(P:Program)(t:TypeId)(ks:List IntKind):Prop:=∃fields,P.underlying t=some (.struct fields)/\P.stoodInHeld t=false/\eqChkF P 0 fields.toList ks=true/\P.eqGuardType P.depth t=false
structure xD(P:Program)(t:TypeId)(ti:TI):Prop where
 i:∃i,P.info? t=some i/\i.size=ti.size/\i.bytes=ti.bytes/\∃z,i.zero=some z/\z.cells.toList=ti.zero
 zl:ti.zero.length=ti.size
 zo:∀v∈ti.zero,v.oneCell'=true
 d:∃d,P.underlying t=some d/\Iq P ti.kind d
 eq:∀ks,uI ti=some ks->aQL P t ks
def mH(P:Program)(T:TypeId->Option TI):Prop:=∀t ti,T t=some ti->xD P t ti
theorem Iq.agg{P:Program}{k:TK}{d:TypeDesc}(h:Iq P k d):pM d=k.isAgg:=by
 cases k with
 |other=>exact h
 |struct fs=>obtain⟨f,rfl,_⟩:=h;rfl
 |arr l e g=>obtain⟨_,_,_,rfl,_⟩:=h;rfl
 |_=>cases h;rfl
section
variable {P:Program} {t:TypeId} {ti:TI} {w:World}
theorem xD.Ki(h:xD P t ti):(isAgg t).run P w=.ok ti.kind.isAgg w:=by
 obtain⟨d,hd,hk⟩:=h.d;rw[<-hk.agg];unfold isAgg;rw[Sem.run_bind,run_underlying hd];cases d <;> rfl
theorem Ab{k:IntKind}(hu:P.underlying t=some (.int k)){cs:Array Value}{i:Nat}{v:Value}(hv:cs[i]?=some v):(part t cs i).run P w=.ok v w:=by
 have ha:(isAgg t).run P w=.ok false w:=by simp[isAgg,Sem.run_bind,run_underlying hu]
 unfold part;rw[Sem.run_bind,ha];simp[hv]
theorem Xm(d:Nat)(xs ys:Array Value):∀(fs:List Field) (ks:List IntKind) (i:Nat) (cs ds:List S) (q:Bool),eqChkF P i fs ks=true->eqInts ks cs ds=some q ->
  (∀(j:Nat) (c:Value),cs[j]?=some (.sc c)->xs[i+j]?=some c)->(∀(j:Nat) (c:Value),ds[j]?=some (.sc c)->ys[i+j]?=some c)->(Op.eqFields (d+1) xs ys fs).run P w=.ok q w
 | [],ks,i,cs,ds,q,h,he,hx,hy=>by
  cases ks with
  |cons=>cases h
  |nil =>
   have:q=true:=by cases cs <;> cases ds <;> simp[eqInts]at he <;> exact he
   subst this;rfl
 |f :: r,ks,i,cs,ds,q,h,he,hx,hy=>by
  cases ks with
  |nil=>cases h
  |cons k ks =>
   obtain⟨a,b,r1,r2,rfl,rfl,q',hq,rfl⟩:∃a b r1 r2,cs=.sc (.int k a) :: r1/\ds=.sc (.int k b) :: r2/\∃q',eqInts ks r1 r2=some q'/\q=((a==b)&&q'):=by
    clear hx hy
    match cs,ds,he with
    | .sc (.int k1 a) :: r1,.sc (.int k2 b) :: r2,yI =>
     simp only[eqInts]at yI;split at yI
     ·rename_i hk;obtain⟨rfl,rfl⟩:=hk;obtain⟨q',hq,rfl⟩:=Option.map_eq_some_iff.1 yI;exact⟨a,b,r1,r2,rfl,rfl,q',hq,rfl⟩
     ·cases yI
   unfold eqChkF at h;simp only[bLX,bne_iff_ne,ne_eq]at h;obtain⟨hn,ho,hu,hr⟩:=h;have ho:=bMF ho;split at hu
   ·rename_i k' Mu;have x0:=hx 0 _ rfl;have y0:=hy 0 _ rfl;have ih:=Xm d xs ys r ks (i+1) r1 r2 q' hr hq (fun j c hc=>by have:=hx (j+1) c hc;rwa [show i+(j+1)=i+1+j from by omega]at this) (fun j c hc=>by have:=hy (j+1) c hc;rwa [show i+(j+1)=i+1+j from by omega]at this);rw[bMS,<-ho]at x0 y0;simp only[Op.eqFields,ne_eq,hn,not_false_eq_true,if_true,Sem.run_bind,Ab Mu x0,Ab Mu y0,Result.andThen_ok,run_equalIn_int w d f.type _ _ a b Mu];cases aWY:(a==b)with
    |true=>simpa [Sem.run_ite] using ih
    |false=>simp
   ·cases hu
theorem aPE{ks:List IntKind}(h:aQL P t ks){xs ys:Array Value}{cs ds:List S}{q:Bool}(he:eqInts ks cs ds=some q)
  (hx:∀(j:Nat) (c:Value),cs[j]?=some (.sc c)->xs[j]?=some c) (hy:∀(j:Nat) (c:Value),ds[j]?=some (.sc c)->ys[j]?=some c) :
  (∀y z,(do eqGuard .eql t y z (.agg xs) (.agg ys);binOp .eql t (.agg xs) (.agg ys):Sem Value).run P w=.ok (.bool q) w)/\(∀y z,(do eqGuard .neq t y z (.agg xs) (.agg ys);binOp .neq t (.agg xs) (.agg ys):Sem Value).run P w=.ok (.bool (!q)) w):=by
 obtain⟨fields,hu,hs,hf,hg⟩:=h;have aAV:P.fieldsOf t=fields:=by simp[Program.fieldsOf,hu]
 have hr:(Op.equal t (.agg xs) (.agg ys)).run P w=.ok q w:=by
  show(Op.equalIn (9999+1) t (.agg xs) (.agg ys)).run P w=_;rw[run_equalIn_struct w 9999 t xs ys (by rw[aAV];exact hu) hs,aAV];exact Xm (w:=w) 9998 xs ys fields.toList ks 0 cs ds q hf he (fun j c hc=>by rw[bLT];exact hx j c hc) (fun j c hc=>by rw[bLT];exact hy j c hc)
 constructor <;> intro y z <;> rw[Sem.run_bind,run_eqGuard_agg (w:=w) _ t y z xs ys hg,Result.andThen_ok]
 ·show(do pure (Value.bool (<-Op.equal t (.agg xs) (.agg ys))):Sem Value).run P w=_;rw[Sem.run_bind,hr];rfl
 ·show(do pure (Value.bool (!(<-Op.equal t (.agg xs) (.agg ys)))):Sem Value).run P w=_;rw[Sem.run_bind,hr];rfl
theorem xD.run_sizeOf(h:xD P t ti):(sizeOf t).run P w=.ok ti.size w:=by
 obtain⟨i,hi,hs,_⟩:=h.i;simp[sizeOf,typeInfo,hi,hs]
theorem xD.aCM(h:xD P t ti):∃z,(zeroValue t).run P w=.ok z w/\z.cells.toList=ti.zero:=by
 obtain⟨i,hi,hs,hb,z,hz,hc⟩:=h.i;exact⟨z,by simp[zeroValue,typeInfo,hi,hz],hc⟩
end
theorem aR{α:Type}{l:List α}{i:Nat}{x:α}(h:l[i]?=some x):i<l.length:=(List.getElem?_eq_some_iff.1 h).1
theorem bA{α:Type}{l:List α}{i:Nat}(h:i<l.length):∃x,l[i]?=some x:=⟨l[i],bMH h⟩
theorem jV(b off n:Nat):(⟨b,off,none⟩:Addr).add n=⟨b,off+n,none⟩:=by unfold Addr.add;split <;> simp_all
theorem Ow{X:Nat->Prop}{w:World}{zs:List Value}(hz:∀v∈zs,v.oneCell'=true):gF X w (zs.map .sc) zs:=by
 refine⟨by simp,fun i s u hs hu=>?_⟩;simp only[bLV,hu,bME,Option.some.injEq]at hs;subst hs;exact⟨rfl,hz u (bMA hu)⟩
theorem aBC{X:Nat->Prop}{w:World}{zs:List Value}(wd:Option IntKind)(hz:∀v∈zs,v.oneCell'=true):gF X w (zs.map (wideS wd)) zs:=by
 refine⟨by simp,fun i s u hs hu=>?_⟩;simp only[bLV,hu,bME,Option.some.injEq]at hs;subst hs;have h0:=hz u (bMA hu);unfold wideS;split
 ·exact⟨rfl,h0⟩
 ·split
  ·exact⟨none,0,rfl,bLR _,fun i n hn=>by simp at hn⟩
  ·exact⟨rfl,h0⟩
theorem gF.cells{X:Nat->Prop}{w:World}{cs:List S}{arr:Array Value}(h:gF X w cs arr.toList):vC X w (.cells cs) arr :=
 ⟨by have:=h.1;simp at this;omega,fun i s hs=>by
  have iN:=aR hs;rw[h.1]at iN;obtain⟨u,hu⟩:=bA iN;exact⟨u,by simpa using hu,h.2 i s u hs hu⟩⟩
theorem Mr{P:Program}{X:Nat->Prop}{w:World}{t:TypeId}{ti:TI}(hT:xD P t ti){b off:Nat}{cs:List S}(hc:∀(i:Nat) (s:S),cs[i]?=some s->∃u,w.cell? ⟨b,off+i,none⟩=some u/\mZ X w s u)
  {j:Nat} {x:V} (hp:partOf ti cs j=some x) {ρ:Nat->Nat} {hp':Nat->Option iM}:∃v,(loadVar t ⟨b,off+j,none⟩).run P w=.ok v w/\Bf ρ hp' X w x v/\refsV x=[]:=by
 unfold partOf at hp;unfold loadVar;rw[Sem.run_bind,hT.Ki,Result.andThen_ok];split at hp
 ·rename_i Tu;split at hp
  ·rename_i hle;cases hp;rw[if_pos Tu,Sem.run_bind,hT.run_sizeOf,Result.andThen_ok];have hex:∀i,i<ti.size->∃u,w.cell? ⟨b,off+j+i,none⟩=some u/\∀s,cs[j+i]?=some s->mZ X w s u:=by
    intro i hi;obtain⟨s,hs⟩:=bA (l:=cs) (i:=j+i) (by omega);obtain⟨u,hu,hr⟩:=hc (j+i) s hs;refine⟨u,by rw[<-hu];congr 2;omega,fun s' nU=>?_⟩;rw[hs]at nU;cases nU;exact hr
   obtain⟨f,hf⟩:∃f:Nat->Value,∀i,i<ti.size->w.cell? ⟨b,off+j+i,none⟩=some (f i)/\∀s,cs[j+i]?=some s->mZ X w s (f i) :=
    ⟨fun i=>if h:i<ti.size then Classical.choose (hex i h)else undef,fun i hi=>by simp only[hi,dif_pos];exact Classical.choose_spec (hex i hi)⟩
   have hl:=run_loadCells_list (P:=P) w ⟨b,off+j,none⟩ ((bNB ti.size).map f) (fun i v hv=>by
    have hi:=aR hv;simp at hi;rw[jV,(hf i hi).1];simpa [hi] using hv)
   simp only[bNK,List.length_range]at hl;rw[Sem.run_bind,hl];refine⟨_,rfl,⟨_,rfl,⟨by simp;omega,fun i s u hs hu=>?_⟩⟩,rfl⟩;have hi:=aR hu;simp at hi;have Mu:u=f i:=by simpa [hi] using hu.symm
   subst Mu;refine(hf i hi).2 s ?_;rw[bLW hi,bMD]at hs;exact hs
  ·cases hp
 ·rename_i Tu;split at hp <;> cases hp;rename_i c bAO;obtain⟨u,hu,hr⟩:=hc j c bAO;refine⟨u,?_,hr,rfl⟩;rw[if_neg (by simpa using Tu),run_load,hu]
theorem List.nY{α:Type}(cs new:List α)(off i:Nat)(h:off+new.length<=cs.length) :
  (cs.take off ++ (new ++ cs.drop (off+new.length)))[i]?=if off<=i/\i<off+new.length then new[i-off]? else cs[i]?:=by
 by_cases h1:i<off
 ·rw[bNC (by simp;omega),bLW h1,aY]
 ·rw[bND (by simp;omega)];have e:(cs.take off).length=off:=by simp;omega
  rw[e]
  by_cases h2:i<off+new.length
  ·rw[bNC (by omega),aU]
  ·rw[bND (by omega),aY,bMD];congr 1;omega
theorem Pe{X:Nat->Prop}{w:World}{cs new:List S}{arr:Array Value}{Yq:List Value}(h:vC X w (.cells cs) arr)(hn:gF X w new Yq){off:Nat}(hle:off+new.length<=cs.length) :
  vC X w (.cells (setAt cs off new)) (arr.toList.take off ++ (Yq ++ arr.toList.drop (off+Yq.length))).toArray:=by
 have h1:=h.1;have h2:off+Yq.length<=arr.toList.length:=by rw[<-hn.1];simp;omega
 refine⟨by simp[setAt];have:=hn.1;omega,fun i s hs=>?_⟩;unfold setAt at hs;rw[List.nY _ _ _ _ hle]at hs;have e:(arr.toList.take off ++ (Yq ++ arr.toList.drop (off+Yq.length))).toArray[i]?=(arr.toList.take off ++ (Yq ++ arr.toList.drop (off+Yq.length)))[i]?:=by simp
 rw[e,List.nY _ _ _ _ h2,<-hn.1];split at hs
 ·rename_i hi;rw[if_pos hi];have iN:=aR hs;rw[hn.1]at iN;obtain⟨u,hu⟩:=bA iN;exact⟨u,hu,hn.2 _ s u hs hu⟩
 ·rename_i hi;rw[if_neg hi];obtain⟨u,hu,hr⟩:=h.2 i s hs;exact⟨u,by simpa using hu,hr⟩
theorem Sp{X:Nat->Prop}{w:World}{cs new:List S}{vs Yq:List Value}(h:gF X w cs vs)(hn:gF X w new Yq){off:Nat}(hle:off+new.length<=cs.length) :
  gF X w (setAt cs off new) (vs.take off ++ (Yq ++ vs.drop (off+Yq.length))):=by
 have h1:=h.1;have h2:=hn.1;refine⟨by unfold setAt;simp;omega,fun i s u hs hu=>?_⟩;unfold setAt at hs;rw[List.nY cs new off i hle]at hs;rw[List.nY vs Yq off i (by omega)]at hu
 by_cases hi:off<=i/\i<off+new.length
 ·rw[if_pos hi]at hs;rw[aU]at hu;exact hn.2 _ s u hs hu
 ·rw[if_neg hi]at hs;rw[aY]at hu;exact h.2 _ s u hs hu
end AI
namespace AI
open Go Go.RowKit
def mB(al:Nat->Prop)(id:Nat):Nat->Prop:=fun i=>al i\/(id<=i/\i<id+8)
section
variable {P:Program} {E:Env} {X:Nat->Prop} {w0:Old} {ρ:Nat->Nat} {al:Nat->Prop} {fr:Nat->A} {hp:Nat->Option iM} {a:Act} {w:World} {o:Oper} {id:Nat} {x:A} {u:nV}
def iC(P:Program)(E:Env)(X:Nat->Prop)(w0:Old)(al:Nat->Prop)(fr:Nat->A)(hp:Nat->Option iM)(a:Act)(w:World)(o:Oper)(id:Nat)(x:A)(u:nV):Prop :=
 ∃ρ' v w',((execOp a.eval o).run P w=.ok (.value v) w'\/((execOp a.eval o).run P w=.ok .skip w'/\v=undef))/\gV E X w0 ρ' (mB al id) (yZ o x fr) (applyUps u hp) (a.put o.dst v) w'
theorem gV.more(h:gV E X w0 ρ al fr hp a w)(id:Nat):gV E X w0 ρ (mB al id) fr hp a w :=
 { fr:=h.fr,sz:=h.sz,nod:=h.nod,blk:=h.blk,inj:=h.inj,alh:=fun i b hb=>.inl (h.alh i b hb),alr:=fun t i hi=>.inl (h.alr t i hi),below:=h.below,x0:=h.x0,glob:=h.glob,mg:=h.mg,al0:=fun i hi=>.inl (h.al0 i hi),uK:=h.uK }
theorem bW(h:gV E X w0 ρ al fr hp a w)(hd:gY E.nt o=true){v:Value}(eZ:(execOp a.eval o).run P w=.ok (.value v) w)(hx:vD ρ hp (XO X ρ hp) w x v)(aSU:∀i∈refs x,al i) :
  iC P E X w0 al fr hp a w o id x [] :=
 ⟨ρ,v,w,.inl eZ,(h.more id).pure hd hx (fun i hi=>.inl (aSU i hi))⟩
theorem kQ(v:Value):refs (yF v)=[]:=rfl
theorem Qw(h:gV E X w0 ρ al fr hp a w)(hd:gY E.nt o=true){y:Operand}(ho:o.op=.move y\/o.op=.assign y)(he:oR E id o (evA E fr) hp=some (x,u)):iC P E X w0 al fr hp a w o id x u:=by
 have h1:=h.ev y;rcases ho with ho |ho
 all_goals
  unfold oR effK at he;rw[ho]at he;cases he;exact bW h hd (v:=a.eval y) (by unfold execOp;rw[ho];rfl) h1.1 h1.2
theorem aFA(h:gV E X w0 ρ al fr hp a w)(hd:gY E.nt o=true){c y z:Operand}(ho:o.op=.pick c y z)(he:oR E id o (evA E fr) hp=some (x,u)):iC P E X w0 al fr hp a w o id x u:=by
 have hc:=(h.ev c).1;have hy:=h.ev y;have hz:=h.ev z;have eZ:∀t,a.eval c=.bool t->(execOp a.eval o).run P w=.ok (.value (if t then a.eval y else a.eval z)) w:=by
  intro t ht;unfold execOp;rw[ho];simp[ht,asBool]
 unfold oR effK at he;rw[ho]at he;simp only at he;split at he
 ·rename_i t bAL;rw[bAL]at hc;have aOU:a.eval c=.bool t:=hc.1;split at he
  ·rename_i p q zF Mw;cases he;rw[zF]at hy;rw[Mw]at hz;have e1:a.eval y=.bool p:=hy.1.1;have e2:a.eval z=.bool q:=hz.1.1;refine bW h hd (eZ t aOU) ?_ (by simp[kQ]);rw[e1,e2];cases t <;> exact⟨rfl,rfl⟩
  ·cases t <;> cases he
   ·exact bW h hd (eZ false aOU) (by simpa using hz.1) hz.2
   ·exact bW h hd (eZ true aOU) (by simpa using hy.1) hy.2
 ·cases he
theorem oF(id:Nat):mB al id id:=.inr ⟨bLR _,by omega⟩
theorem Gh(e:TypeId)(v:Value):(newVar e v).run P w=.ok ⟨w.heap.size,0,none⟩ (w.alloc (.cells v.cells e)):=rfl
theorem Zv(h:gV E X w0 ρ al fr hp a w)(hd:gY E.nt o=true)(hT:mH P E.T)(tM:∀j,j<8->¬al (id+j)){e:TypeId}(ho:o.op=.alloc e)(he:oR E id o (evA E fr) hp=some (x,u)):iC P E X w0 al fr hp a w o id x u:=by
 unfold oR effK at he;rw[ho]at he;simp only at he;split at he
 ·rename_i ti uD;cases he;have ht:=hT e ti uD;obtain⟨z,hz,Jk⟩:=ht.aCM (w:=w);have Ee:vC (XO X ρ hp) w (.cells (ti.zero.map (wideS E.wide))) z.cells:=by
   refine gF.cells ?_;rw[Jk];exact aBC E.wide ht.zo
  have h1:=h.alloc (id:=id) (al':=mB al id) (tM 0 (by omega)) (fun _ h=>.inl h) (oF id) e _ _ Ee;refine⟨_,.pointer (some ⟨w.heap.size,0,none⟩),_,.inl ?_,h1.pure hd (x:=.v (.one (.ptr id 0))) ?_ ?_⟩
  ·unfold execOp;rw[ho];simp only[Instr.alloc,Sem.run_bind,hz,Result.andThen_ok,Sem.run_pure,Gh]
  ·show _=_;rw[bG]
  ·intro i hi;simp only[refs,refsV,refsL,bMI]at hi;subst hi;exact oF i
 ·cases he
theorem aKB(h:gV E X w0 ρ al fr hp a w)(hd:gY E.nt o=true)(tM:∀j,j<8->¬al (id+j)){e:TypeId}{y:Operand}(ho:o.op=.box e y)(he:oR E id o (evA E fr) hp=some (x,u)):iC P E X w0 al fr hp a w o id x u:=by
 unfold oR effK at he;rw[ho]at he;simp only at he;split at he
 ·rename_i ti cs u1 uD Qn;split at he <;> cases he;obtain⟨hu,Ee⟩:=sW h (h.ev y).1 Qn;have h0:=h.cons hu;have h1:=h0.alloc (id:=id) (al':=mB al id) (tM 0 (by omega)) (fun _ h=>.inl h) (oF id) e (.cells cs) _ Ee.cells;unfold iC;rw[jB];refine⟨_,.pointer (some ⟨w.heap.size,0,none⟩),_,.inl ?_,h1.pure hd (x:=.v (.one (.ptr id 0))) ?_ ?_⟩
  ·unfold execOp;rw[ho];simp only[Instr.box,Sem.run_bind,Result.andThen_ok,Sem.run_pure,Gh]
  ·show _=_;rw[bG]
  ·intro i hi;simp only[refs,refsV,refsL,bMI]at hi;subst hi;exact oF i
 ·cases he
theorem aFB(h:gV E X w0 ρ al fr hp a w)(hd:gY E.nt o=true)(hT:mH P E.T){t:TypeId}{y:Operand}(ho:o.op=.load t y)(he:oR E id o (evA E fr) hp=some (x,u)):iC P E X w0 al fr hp a w o id x u:=by
 have hy:=(h.ev y).1;have eZ:∀ad v,a.eval y=.pointer (some ad)->(loadVar t ad).run P w=.ok v w->(execOp a.eval o).run P w=.ok (.value v) w:=by
  intro ad v h1 h2;unfold execOp;rw[ho];simp only[h1,Instr.loadAt,Instr.sureAddr,Sem.run_bind,Sem.run_pure,Result.andThen_ok,h2]
 unfold oR effK at he;rw[ho]at he;simp only at he;split at he
 ·rename_i ti uD;have ht:=hT t ti uD;split at he
  ·rename_i i off gR;rw[gR]at hy;have hy:a.eval y=.pointer (some ⟨ρ i,off,none⟩):=hy;split at he
   ·rename_i e cs hb;obtain⟨_,arr,hg,hc⟩:=h.blk i _ hb;split at he <;> cases he;rename_i v hv;obtain⟨v',h1,h2,h3⟩:=Mr (P:=P) ht (b:=ρ i) (off:=0) (cs:=cs) (fun j s hs=>by
     obtain⟨u,hu,hr⟩:=hc.2 j s hs;exact⟨u,by rw[cell_of_row w (ρ i) _ arr e (0,0) hg];simpa using hu,hr⟩) hv (ρ:=ρ) (hp':=hp)
    rw[bLT]at h1;exact bW h hd (eZ _ _ hy h1) h2 (by simp[refs,h3])
   ·cases he
  ·rename_i i j gR;rw[gR]at hy;obtain⟨hy,iN⟩:=hy;split at he
   ·rename_i e k ns hb Tu;cases he;have hj:=iN _ k ns hb rfl;have hc:=h.uV hb (bMH hj);refine bW h hd (v:=.int k (ns.getD j 0)) (eZ _ _ hy ?_) ⟨rfl,rfl⟩ (by simp[kQ]);unfold loadVar;rw[Sem.run_bind,ht.Ki,Result.andThen_ok,if_neg (by simp[Tu]),run_load,hc];simp[bNL,hj]
   ·cases he
  ·rename_i cs gR;rw[gR]at hy;obtain⟨b,off,hy,hc⟩:=hy;split at he <;> cases he;rename_i v hv;obtain⟨v',h1,h2,h3⟩:=Mr (P:=P) ht (b:=b) (off:=off) (cs:=cs) (fun j s hs=>by
    obtain⟨_,_,u,hu,hr⟩:=hc j s hs;exact⟨u,hu,hr⟩) hv (ρ:=ρ) (hp':=hp)
   rw[bMS]at h1;exact bW h hd (eZ _ _ hy h1) h2 (by simp[refs,h3])
  ·cases he
 ·cases he
theorem jA{g:Nat}{arr:Array Value}{e:TypeId}{f:Nat×Nat}(h:w.heap[g]?=some (.cells arr e f)):jM w g=arr.size:=by unfold jM;rw[h]
theorem Zp(h:gV E X w0 ρ al fr hp a w)(hd:gY E.nt o=true)(hT:mH P E.T){t:TypeId}{y z:Operand}(ho:o.op=.store t y z)(he:oR E id o (evA E fr) hp=some (x,u)):iC P E X w0 al fr hp a w o id x u:=by
 have hy:=(h.ev y).1;have hz:=(h.ev z).1;have eZ:∀ad w',a.eval y=.pointer (some ad)->(storeVar t ad (a.eval z)).run P w=.ok () w'->(execOp a.eval o).run P w=.ok .skip w':=by
  intro ad w' h1 h2;unfold execOp;rw[ho];simp only[h1,Instr.storeAt,Instr.sureAddr,Sem.run_bind,Sem.run_pure,Result.andThen_ok,h2]
 unfold oR effK at he;rw[ho]at he;simp only at he;split at he
 ·rename_i ti uD;have ht:=hT t ti uD;split at he
  ·rename_i i off gR;rw[gR]at hy;have hy:a.eval y=.pointer (some ⟨ρ i,off,none⟩):=hy;split at he
   ·rename_i e cs new u1 hb bJP;split at he <;> cases he;rename_i Hh;obtain⟨Dr,aZS,bHN⟩:=Hh;obtain⟨hu,Ee⟩:=sW h hz bJP;have h0:=h.cons hu;have hb0:applyUps u1 hp i=some ⟨e,.cells cs⟩:=by
     have:∀(u:nV) (hp:Nat->Option iM),(u.all fun p=>p.1 !=i)=true->applyUps u hp i=hp i:=by
      intro u
      induction u with
      |nil=>intros;rfl
      |cons p u ih =>
       intro hp wT;obtain⟨j,c⟩:=p;simp only[List.all_cons,bLX,bne_iff_ne]at wT;rw[applyUps,ih _ wT.2,eF _ _ (fun e=>wT.1 e.symm)]
     rw[this u1 hp bHN];exact hb
    obtain⟨_,arr,hg,hc⟩:=h0.blk i _ hb0;have pO:cs.length<=arr.size:=hc.1;have bDN:(a.eval z).cells.size=new.length:=by have:=Ee.1;simpa using this.symm
    have Mx:∀v∈(a.eval z).cells.toList,v.oneCell'=true:=by
     intro v hv;obtain⟨k,hk⟩:=bMP hv;obtain⟨s,hs⟩:=bA (l:=new) (i:=k) (by rw[Ee.1];exact aR hk);exact(Ee.2 k s v hs hk).one
    have Za:=run_storeCells_at P (ρ i) off e (a.eval z).cells.toList 0 arr w hg (by simp;omega) Mx;simp only[bMS]at Za;have h1:=h0.setRow hb0 (.cells (setAt cs off new)) (arr.toList.take off ++ ((a.eval z).cells.toList ++ arr.toList.drop (off+(a.eval z).cells.toList.length))).toArray
     ⟨fun k ns e=>(by cases e),fun Hr e=>by cases e;exact⟨cs,rfl,by simp[setAt];omega⟩⟩ (by rw[jA hg];simp;omega) (Pe hc Ee aZS)
    unfold iC;rw[jB];refine⟨ρ,undef,_,.inr ⟨eZ _ _ hy ?_,rfl⟩,(h1.more id).pure hd (x:=.any) trivial (by simp[refs])⟩;unfold storeVar;rw[Sem.run_bind,ht.run_sizeOf,Result.andThen_ok,if_neg (by rw[bDN,Dr];simp),Za];simp[bNM]
   ·cases he
  ·rename_i i j gR;rw[gR]at hy;obtain⟨hy,iN⟩:=hy;split at he
   ·rename_i e k ns k' n hb bJJ;split at he <;> cases he;rename_i hk;obtain⟨rfl,Se⟩:=hk;have hj:=iN _ k ns hb rfl;rw[bJJ]at hz;have hz:a.eval z=.int k n:=hz.1;obtain⟨_,arr,hg,hc⟩:=h.blk i _ hb;have bEH:j<arr.size:=bMR hj hc.1;have Za:=run_storeCells_at P (ρ i) j e [.int k n] 0 arr w hg (by simp;omega) (by simp[Value.oneCell']);simp only[bMS]at Za;have aZD:(arr.toList.take j ++ [Value.int k n] ++ arr.toList.drop (j+[Value.int k n].length)).toArray=arr.setIfInBounds j (.int k n):=by
     apply Array.ext';simp only[Array.toList_setIfInBounds,List.length_cons,List.length_nil];rw[List.set_eq_take_append_cons_drop,if_pos (by simpa using bEH)];simp
    rw[aZD]at Za;have h1:=h.setRow hb (.ints k (ns.set j n)) (arr.setIfInBounds j (.int k n)) ⟨fun k1 Sa e=>(by cases e;exact⟨k,ns,rfl,by simp⟩),fun Hr e=>(by cases e)⟩ (by rw[jA hg];simp) (by
     refine⟨by simpa using hc.1,fun l m hl=>?_⟩;rw[List.getElem?_set]at hl;rw[Array.getElem?_setIfInBounds];split at hl
     ·rename_i aDV;subst aDV;rw[if_pos rfl,if_pos bEH];first | (cases hl;rfl) | (split at hl <;> cases hl;rfl)
     ·rename_i aDV;rw[if_neg aDV];exact hc.2 l m hl)
    refine⟨ρ,undef,_,.inr ⟨eZ _ _ hy ?_,rfl⟩,(h1.more id).pure hd (x:=.any) trivial (by simp[refs])⟩;unfold storeVar;rw[Sem.run_bind,ht.run_sizeOf,Result.andThen_ok,hz,if_neg (by simp[Value.cells,Se])];exact Za
   ·cases he
  ·cases he
 ·cases he
theorem Ay{u:nV}(hu:Cons u)(hp:Nat->Option iM)(i:Nat):applyUps u hp i=if i∈u.map (·.1)then none else hp i:=by
 induction u generalizing hp with
 |nil=>rfl
 |cons p u ih =>
  obtain⟨j,c⟩:=p;have hc:c=none:=hu (j,c) (by simp);subst hc;rw[applyUps,ih (fun p hp=>hu p (by simp[hp]))]
  by_cases aQV:i=j
  ·subst aQV;rw[bG];simp
  ·rw[eF _ _ aQV];simp only[bLQ,bMX,aQV,false_or]
theorem gF.Kz{cs:List S}{vs:List Value}{u1 u2:nV}(h1:Cons u1)(h2:Cons u2)(hs:∀i,i∈u1.map (·.1)->i∈u2.map (·.1))(h:gF (XO X ρ (applyUps u1 hp)) w cs vs):gF (XO X ρ (applyUps u2 hp)) w cs vs:=by
 refine h.later ⟨bLR _,fun b _ hx=>⟨rfl,fun ho=>hx (ho.imp (fun h=>h) ?_)⟩⟩;rintro ⟨i,bl,hb,hr⟩;refine⟨i,bl,?_,hr⟩;rw[Ay h2]at hb;rw[Ay h1];split at hb
 ·cases hb
 ·rename_i hn;rw[if_neg (fun h=>hn (hs i h))];exact hb
theorem Qq(off:Nat):∀(vs:List Value) (k:Nat) (arr:Array Value),off+k+vs.length<=arr.size ->
  ((vs.zipIdx k).foldl (fun cs p=>cs.setIfInBounds (off+p.2) p.1) arr).toList=arr.toList.take (off+k) ++ vs ++ arr.toList.drop (off+k+vs.length)
 | [],k,arr,_=>by simp
 |v :: vs,k,arr,h=>by
  simp only[List.zipIdx_cons,List.foldl_cons];rw[Qq off vs (k+1) (arr.setIfInBounds (off+k) v) (by simp at h ⊢;omega)];simp only[Array.toList_setIfInBounds];have:=list_seg_step arr.toList (off+k) v vs (by simp at h ⊢;omega);simpa [Nat.add_assoc] using this
theorem kD{R:Type}(hp:Nat->Option iM)(place:Nat->Option (Nat×Nat))(ev:Operand->A)(parts:List (Nat×Operand))(cs:List S)(u:nV)(K:List S->nV->Option R) :
  fillK hp place ev parts cs u K=(fillK hp place ev parts cs u (fun cs u=>some (cs,u))).bind fun r=>K r.1 r.2:=by
 induction parts generalizing cs u with
 |nil=>rfl
 |cons p rest ih =>
  obtain⟨i,y⟩:=p;simp only[fillK];split
  ·split
   ·exact ih _ _
   ·rfl
  ·rfl
theorem uS(h:gV E X w0 ρ al fr hp a w)(place:Nat->Option (Nat×Nat)):∀(parts:List (Nat×Operand)) (cs:List S) (u:nV) (arr:Array Value) (Hr:List S) (u':nV),
  Cons u->gF (XO X ρ (applyUps u hp)) w cs arr.toList->fillK hp place (evA E fr) parts cs u (fun cs u=>some (cs,u))=some (Hr,u') ->
  Cons u'/\∃lW,Instr.fill place arr (parts.map fun p=>(p.1,a.eval p.2))=some lW/\gF (XO X ρ (applyUps u' hp)) w Hr lW.toList/\lW.size=arr.size
 | [],cs,u,arr,Hr,u',hu,hr,he=>by cases he;exact⟨hu,arr,rfl,hr,rfl⟩
 | (i,y) :: rest,cs,u,arr,Hr,u',hu,hr,he=>by
  simp only[fillK]at he;split at he
  ·rename_i off size new u1 Sg bJQ;split at he
   ·rename_i Hh;obtain⟨aDM,hn⟩:=sW h (h.ev y).1 bJQ;have pO:(a.eval y).cells.size=size:=by have:=hn.1;simp at this;omega
    have hle:off+(a.eval y).cells.size<=arr.size:=by have:=hr.1;simp at this;omega
    have bAK:Cons (u ++ u1):=fun p hp=>(List.mem_append.1 hp).elim (hu p) (aDM p)
    have bHV:gF (XO X ρ (applyUps (u ++ u1) hp)) w cs arr.toList:=hr.Kz hu bAK (fun i hi=>by simp only[bMQ,bMT];exact .inl hi);have Zc:gF (XO X ρ (applyUps (u ++ u1) hp)) w new (a.eval y).cells.toList:=hn.Kz aDM bAK (fun i hi=>by simp only[bMQ,bMT];exact .inr hi);have aOC:=Sp bHV Zc Hh.2;have aUN:=Qq off (a.eval y).cells.toList 0 arr (by simpa using hle);obtain⟨Un,aMH⟩:∃Un,Un=(a.eval y).cells.zipIdx.foldl (fun cs p=>cs.setIfInBounds (off+p.2) p.1) arr:=⟨_,rfl⟩;have Dr:Un.toList=arr.toList.take off ++ ((a.eval y).cells.toList ++ arr.toList.drop (off+(a.eval y).cells.toList.length)):=by
     rw[aMH,<-Array.foldl_toList,Array.toList_zipIdx,aUN];simp[bNM]
    rw[<-Dr]at aOC;have aYY:Un.size=arr.size:=by
     have:Un.toList.length=arr.toList.length:=by rw[Dr];simp;omega
     simpa using this
    obtain⟨bAJ,lW,hf,Ee,hs⟩:=uS h place rest (setAt cs off new) (u ++ u1) Un Hr u' bAK aOC he;refine⟨bAJ,lW,?_,Ee,hs.trans aYY⟩;rw[bLQ,Instr.fill,Sg];simp only;rw[if_neg (by simp;omega)];have e:(Array.foldl (fun cs (x:Value×Nat)=>match x with | (c,j)=>cs.setIfInBounds (off+j) c) arr (a.eval y).cells.zipIdx)=Un:=aMH.symm;rw[e];exact hf
   ·cases he
  ·cases he
theorem wL{α β:Type}{f:α->Option β}:∀{l:List α} {r:List β},l.mapM f=some r->r.length=l.length
 | [],r,h=>by simp at h;subst h;rfl
 |x :: l,r,h=>by
  rw[bMY]at h;simp only[bNW,bNX,bNY,Option.some.injEq]at h;obtain⟨y,_,ys,bHA,rfl⟩:=h;simp[wL bHA]
theorem Zt(h:gV E X w0 ρ al fr hp a w)(hd:gY E.nt o=true)(hT:mH P E.T){t:TypeId}{parts:Array (Nat×Operand)}(ho:o.op=.build t parts)(he:oR E id o (evA E fr) hp=some (x,u)):iC P E X w0 al fr hp a w o id x u:=by
 have fin:∀(lW:Array Value) cs u,(execOp a.eval o).run P w=.ok (.value (.agg lW)) w->Cons u->gF (XO X ρ (applyUps u hp)) w cs lW.toList->iC P E X w0 al fr hp a w o id (.v (.agg cs)) u:=by
  intro lW cs u eZ hu Ee;exact⟨ρ,.agg lW,w,.inl eZ,((h.cons hu).more id).pure hd ⟨lW,rfl,Ee⟩ (by simp[refs,refsV])⟩
 have hex:∀r,(Instr.build t (parts.map fun p=>(p.1,a.eval p.2))).run P w=.ok r w->(execOp a.eval o).run P w=.ok (.value r) w:=by
  intro r hr;unfold execOp;rw[ho];simp only[Sem.run_bind];rw[hr];rfl
 unfold oR effK at he;rw[ho]at he;simp only at he;split at he
 ·rename_i size bytes zero fs uD;have ht:=hT t _ uD;obtain⟨i,hi,_,_,z,hz,Jk⟩:=ht.i;obtain⟨d,sF,fields,rfl,aQY,hf⟩:=ht.d;rw[kD]at he;obtain⟨⟨cs,u2⟩,Ql,he⟩:=Option.bind_eq_some_iff.1 he;cases he;obtain⟨hu,lW,h1,h2,h3⟩:=uS h _ parts.toList _ [] z.cells cs u2 (fun p hp=>by cases hp) (by rw[Jk];exact Ow ht.zo) Ql;refine fin lW cs u2 (hex _ ?_) hu h2;obtain⟨sT,Sg,bIB⟩:∃sT:List (Nat×Nat),fields.toList.mapM (fun f=>(P.info? f.type).map fun i=>(f.offset,i.size))=some sT/\∀(k:Nat) (p:Nat×Nat),sT[k]?=some p->(fs[k]?).map (fun(f:Nat×Nat×Bool)=>(f.1,f.2.1))=some p:=by
   have:∀(l:List Field) (s:Nat),(∀(k:Nat) (f:Field),l[k]?=some f->∃fi fd,P.info? f.type=some fi/\P.underlying f.type=some fd/\fs[s+k]?=some (f.offset,fi.size,pM fd)) ->
     ∃sT:List (Nat×Nat),l.mapM (fun f=>(P.info? f.type).map fun i=>(f.offset,i.size))=some sT/\∀(k:Nat) (p:Nat×Nat),sT[k]?=some p->(fs[s+k]?).map (fun(f:Nat×Nat×Bool)=>(f.1,f.2.1))=some p:=by
    intro l
    induction l with
    |nil=>intro s _;exact⟨[],rfl,fun k p hk=>by simp at hk⟩
    |cons f l ih =>
     intro s hl;obtain⟨fi,fd,e1,e2,e3⟩:=hl 0 f rfl;obtain⟨pl,p1,p2⟩:=ih (s+1) (fun k g hk=>by have:=hl (k+1) g (by simpa using hk);rwa [show s+(k+1)=s+1+k by omega]at this);refine⟨(f.offset,fi.size) :: pl,by simp[bMY,e1,p1],fun k p hk=>?_⟩
     match k with
     |0=>simp at hk;subst hk;simp at e3;simp[e3]
     |k+1=>simp at hk;have:=p2 k p hk;rwa [show s+1+k=s+(k+1) by omega]at this
   obtain⟨pl,p1,p2⟩:=this fields.toList 0 (fun k f hk=>by rw[bLT];exact hf k f (by simpa using hk));exact⟨pl,p1,fun k p hk=>by have:=p2 k p hk;rwa [bLT]at this⟩
  refine run_build w t _ lW ?_;unfold Program.built;simp only[hi,sF,hz,Sg,Array.toList_map];have Ku:∀(ps:List (Nat×Value)) (arr:Array Value) r,Instr.fill (fun i=>(fs[i]?).map fun(f:Nat×Nat×Bool)=>(f.1,f.2.1)) arr ps=some r->Instr.fill (sT.toArray[·]?) arr ps=some r:=by
   intro ps
   induction ps with
   |nil=>intro arr r h;exact h
   |cons p ps ih =>
    intro arr r h;obtain⟨i,v⟩:=p;unfold Instr.fill at h ⊢;cases hq:sT[i]? with
    |none =>
     have h1:sT.length=fields.size:=by simpa using (wL Sg)
     have h2:fs[i]?=none:=bNN (by have:=List.getElem?_eq_none_iff.1 hq;omega);simp[h2]at h
    |some q =>
     have:=bIB i q hq;simp only[this]at h;have bHY:sT.toArray[i]?=some q:=by simp[hq]
     simp only[bHY];obtain⟨o1,s1⟩:=q;simp only at h ⊢;split at h
     ·cases h
     ·rename_i hc;rw[if_neg hc];exact ih _ _ h
  have e:parts.toList.map (fun p=>(p.1,a.eval p.2))=parts.toList.map (fun x=>(x.fst,a.eval x.snd)):=rfl;rw[e]at h1;exact Ku _ _ _ h1
 ·rename_i size bytes zero len nQ g uD;have ht:=hT t _ uD;obtain⟨i,hi,_,_,z,hz,Jk⟩:=ht.i;obtain⟨d,sF,e,ei,ed,rfl,Xe,aJL,_,_⟩:=ht.d;rw[kD]at he;obtain⟨⟨cs,u2⟩,Ql,he⟩:=Option.bind_eq_some_iff.1 he;cases he;obtain⟨hu,lW,h1,h2,h3⟩:=uS h _ parts.toList _ [] z.cells cs u2 (fun p hp=>by cases hp) (by rw[Jk];exact Ow ht.zo) Ql;refine fin lW cs u2 (hex _ ?_) hu h2;refine run_build w t _ lW ?_;unfold Program.built;simp only[hi,sF,hz,Xe,Array.toList_map];subst aJL;exact h1
 ·cases he
end
end AI
namespace AI
open Go Go.RowKit
section
variable {P:Program} {E:Env} {X:Nat->Prop} {w0:Old} {ρ:Nat->Nat} {al:Nat->Prop} {fr:Nat->A} {hp:Nat->Option iM} {a:Act} {w:World} {o:Oper} {id:Nat} {x:A} {u:nV}
theorem Ec(w:World)(t e:TypeId)(len:Nat)(parts:Array (Nat×Value))(cells:Array Value)(ie:TypeInfo)(z:Value)
  (hu:P.underlying t=some (.slice e)) (bEI:P.info? e=some ie) (hz:ie.zero=some z) (aOD:¬len*ie.size>2^24)
  (h:Instr.fill (fun i=>some (i*ie.size,ie.size)) ((Array.range (len*ie.size)).map (z.cells[·%z.cells.size]!)) parts.toList=some cells) :
  (Instr.buildSlice t len parts).run P w=.ok (.slice (some ⟨w.heap.size,0,none⟩) len len) (w.alloc (.cells cells e)):=by
 by_cases oY:len*ie.size=0
 ·rw[oY]at h;have hr:∀f:Nat->Value,(Array.range 0).map f=#[]:=fun f=>by rw[show Array.range 0=(#[]:Array Nat)from by simp];simp
  rw[hr]at h;simp[Instr.buildSlice,run_underlying hu,sizeOf,typeInfo,bEI,oY,hr,h,newRow]
 ·simp[Instr.buildSlice,run_underlying hu,sizeOf,typeInfo,zeroValue,bEI,hz,aOD,oY,h,newRow]
theorem Az{k:IntKind}:∀{cs:List S} {ns:List Int},allInts k cs=some ns->cs=ns.map fun n=>.sc (.int k n)
 | [],ns,h=>by cases h;rfl
 | .sc (.int k' n) :: r,ns,h=>by
  simp only[allInts]at h;split at h
  ·rename_i hk;subst hk;obtain⟨ms,aJI,rfl⟩:=Option.map_eq_some_iff.1 h;rw[Az aJI];rfl
  ·cases h
 | .ints _ _ :: _,_,h=>by cases h
 | .bot :: _,_,h=>by cases h
 | .sc (.bool _) :: _,_,h=>by cases h
 | .sc (.float _ _) :: _,_,h=>by cases h
 | .sc (.complex _ _ _) :: _,_,h=>by cases h
 | .sc (.string _) :: _,_,h=>by cases h
 | .sc (.pointer _) :: _,_,h=>by cases h
 | .sc (.slice _ _ _) :: _,_,h=>by cases h
 | .sc (.map _) :: _,_,h=>by cases h
 | .sc (.chan _) :: _,_,h=>by cases h
 | .sc (.func _ _ _) :: _,_,h=>by cases h
 | .sc .nilFunc :: _,_,h=>by cases h
 | .sc (.iface _ _) :: _,_,h=>by cases h
 | .sc .nilIface :: _,_,h=>by cases h
 | .sc (.agg _) :: _,_,h=>by cases h
 | .sc (.tuple _) :: _,_,h=>by cases h
theorem Jj{Y:Nat->Prop}{k:IntKind}{ns:List Int}{arr:Array Value}(h:gF Y w (ns.map fun n=>.sc (.int k n)) arr.toList):vC Y w (.ints k ns) arr/\arr.size=ns.length:=by
 have hl:ns.length=arr.size:=by have:=h.1;simpa using this
 refine⟨⟨by omega,fun i n hn=>?_⟩,hl.symm⟩;obtain⟨v,hv⟩:=bA (l:=arr.toList) (i:=i) (by have:=aR hn;simp;omega);have:=(h.2 i (.sc (.int k n)) v (by simp[hn]) hv).1;subst this;simpa using hv
theorem Gy{n:Nat}(h:n<=16777216):n<=maxLen:=by unfold maxLen;omega
theorem Ho(h:gV E X w0 ρ al fr hp a w)(hd:gY E.nt o=true)(hT:mH P E.T)(tM:∀j,j<8->¬al (id+j)){t:TypeId}{len:Nat}{parts:Array (Nat×Operand)}(ho:o.op=.buildSlice t len parts)(he:oR E id o (evA E fr) hp=some (x,u)):iC P E X w0 al fr hp a w o id x u:=by
 unfold oR effK at he;rw[ho]at he;simp only at he;split at he
 ·rename_i s0 b0 z0 e uD;have ht:=hT t _ uD;obtain⟨d,sF,zP⟩:=ht.d;have zP:d=.slice e:=zP;subst zP;split at he
  ·rename_i size bytes zero kind Iz;have Hd:=hT e _ Iz;obtain⟨ie,hi,pO,_,z,hz,Jk⟩:=Hd.i;have pO:ie.size=size:=pO;have Jk:z.cells.toList=zero:=Jk;have bDF:zero.length=size:=Hd.zl;split at he
   ·rename_i Hh;obtain⟨Se,Ja⟩:=Hh;rw[kD]at he;obtain⟨⟨cs,u2⟩,Ql,he⟩:=Option.bind_eq_some_iff.1 he;simp only at he;have aUG:gF (XO X ρ (applyUps [] hp)) w ((bNB (len*size)).map fun i=>S.sc (zero.getD (i%size) undef)) ((Array.range (len*ie.size)).map (z.cells[·%z.cells.size]!)).toList:=by
     refine⟨by simp[pO],fun i s v hs hv=>?_⟩;have hi:=aR hs;simp at hi;have aLS:z.cells.size=size:=by rw[<-bDF,<-Jk];simp
     have hm:i%size<zero.length:=by rw[bDF];exact Nat.mod_lt _ Ja
     simp[hi]at hs;subst hs;have bEC:i%size<z.cells.size:=by rw[aLS];exact Nat.mod_lt _ Ja
     simp[pO,hi,aLS]at hv;have e1:z.cells[i%size]! = zero[i%size]:=by
      rw[getElem!_pos z.cells (i%size) bEC];simp[<-Jk]
     rw[e1]at hv;subst hv;have e2:zero[i%size]?.getD undef=zero[i%size]:=by simp[hm]
     rw[e2];exact⟨rfl,Hd.zo _ (List.getElem_mem hm)⟩
    obtain⟨hu,lW,h1,h2,h3⟩:=uS h _ parts.toList _ [] _ cs u2 (fun p hp=>by cases hp) aUG Ql;have h3:lW.size=len*size:=by rw[h3];simp[pO]
    have eZ:=Ec (P:=P) w t e len (parts.map fun p=>(p.1,a.eval p.2)) lW ie z sF hi hz (by rw[pO];omega) (by rw[Array.toList_map];subst pO;exact h1);have hex:(execOp a.eval o).run P w=.ok (.value (.slice (some ⟨w.heap.size,0,none⟩) len len)) (w.alloc (.cells lW e)):=by
     unfold execOp;rw[ho];simp only[Sem.run_bind];rw[eZ];rfl
    have h0:=h.cons hu;have fin:∀c,vC (XO X ρ (applyUps u2 hp)) w c lW->(∀k ns,c=.ints k ns->len=ns.length/\lW.size=len)->(∀Hr,c=.cells Hr->Hr.length=len*size) ->
      iC P E X w0 al fr hp a w o id (.v (.one (.buf id len))) (u2 ++ [(id,some ⟨e,c⟩)]):=by
     intro c hc hints iD;have h1:=h0.alloc (id:=id) (al':=mB al id) (tM 0 (by omega)) (fun _ h=>.inl h) (oF id) e c lW hc;unfold iC;rw[jB];refine⟨_,_,_,.inl hex,h1.pure hd (x:=.v (.one (.buf id len))) ?_ ?_⟩
     ·refine⟨len,by rw[bG],bLR _,fun blk k ns hb hk=>?_,fun blk Hr hb hk=>?_⟩
      rotate_left
      ·rw[bG]at hb;cases hb;refine⟨size,iD Hr hk,?_,Gy ?_⟩
       ·rw[bG,jA (tP w _)];omega
       ·have:len<=len*size:=bOA _ Ja;omega
      rw[bG]at hb;cases hb;obtain⟨h5,h6⟩:=hints k ns hk;refine⟨h5,Gy ?_,?_⟩
      ·have:len<=len*size:=bOA _ Ja;omega
      ·rw[bG,jA (tP w _)];omega
     ·intro i hi;simp only[refs,refsV,refsL,bMI]at hi;subst hi;exact oF i
    split at he
    ·split at he <;> cases he;rename_i k ns wT;have Qn:=Az wT;rw[Qn]at h2;obtain⟨h5,h6⟩:=Jj h2;refine fin _ h5 (fun k1 Sa e1=>?_) (fun Hr e1=>by cases e1);cases e1;simp at h3;exact⟨by omega,h3⟩
    ·cases he;exact fin _ h2.cells (fun k ns e1=>by cases e1) (fun Hr e1=>by cases e1;have:=h2.1;simp at this;omega)
   ·cases he
  ·cases he
 ·cases he
theorem Zo{X:Nat->Prop}{w:World}(hT:mH P E.T){t:TypeId}{cs ds:List S}{q:Bool}(he:eqAgg (E.T t) cs ds=some q){xs ys:Array Value}(hx:gF X w cs xs.toList)(hy:gF X w ds ys.toList) :
  (∀y z,(do eqGuard .eql t y z (.agg xs) (.agg ys);binOp .eql t (.agg xs) (.agg ys):Sem Value).run P w=.ok (.bool q) w)/\(∀y z,(do eqGuard .neq t y z (.agg xs) (.agg ys);binOp .neq t (.agg xs) (.agg ys):Sem Value).run P w=.ok (.bool (!q)) w):=by
 unfold eqAgg at he;split at he
 ·rename_i ti uD;split at he
  ·rename_i ks bIN;have bFL:∀{cs:List S} {xs:Array Value},gF X w cs xs.toList->∀(j:Nat) (c:Value),cs[j]?=some (.sc c)->xs[j]?=some c:=by
    intro cs xs h j c hc;have iN:j<xs.toList.length:=by rw[<-h.1];exact(List.getElem?_eq_some_iff.1 hc).1
    have hv:xs.toList[j]?=some xs.toList[j]:=bMH iN;have:=(h.2 j _ _ hc hv).1;rw[this]at hv;simpa using hv
   exact aPE ((hT t ti uD).eq ks bIN) he (bFL hx) (bFL hy)
  ·cases he
 ·cases he
theorem Zu(h:gV E X w0 ρ al fr hp a w)(hd:gY E.nt o=true)(hT:mH P E.T){op:BinOp}{t t':TypeId}{y z:Operand}(ho:o.op=.binOp op t y z t')(he:oR E id o (evA E fr) hp=some (x,u)):iC P E X w0 al fr hp a w o id x u:=by
 have hy:=(h.ev y).1;have hz:=(h.ev z).1;unfold oR effK at he;rw[ho]at he;simp only at he;split at he
 ·rename_i p q zF Mw;rw[zF]at hy;rw[Mw]at hz;have e1:a.eval y=p:=hy.1;have e2:a.eval z=q:=hz.1;cases hb:boolT (E.T t) p with
  |false=>rw[hb]at he;cases he
  |true =>
   rw[hb]at he;simp only[cond_true]at he;rw[Cv]at he;obtain⟨r,hr,he⟩:=Option.bind_eq_some_iff.1 he;cases he;obtain⟨h1,h2⟩:=aAB (P:=P) op t y z p q r w (fun b bIC=>by
    subst bIC;unfold boolT at hb;simp only at hb;split at hb
    ·rename_i s0 b0 z0 uD;obtain⟨d,aWW,aRA⟩:=(hT t _ uD).d;have aRA:d=.bool:=aRA;subst aRA;exact aWW
    ·cases hb) hr
   refine bW h hd (v:=r) ?_ ⟨rfl,h2⟩ (by simp[kQ]);unfold execOp;rw[ho];simp only[e1,e2];rw[Sem.run_bind,h1];rfl
 ·rename_i cs ds zF Mw;rw[zF]at hy;rw[Mw]at hz;cases hb:eqAgg (E.T t) cs ds with
  |none=>rw[hb]at he;cases he
  |some b =>
   rw[hb]at he;simp only at he;obtain⟨xs,e1,rx⟩:∃arr,a.eval y=.agg arr/\_:=hy;obtain⟨ys,e2,ry⟩:∃arr,a.eval z=.agg arr/\_:=hz;have eZ:=Zo (P:=P) hT hb rx ry;cases op <;> simp only at he <;> cases he
   ·refine bW h hd (v:=.bool b) ?_ ⟨rfl,rfl⟩ (by simp[kQ]);unfold execOp;rw[ho];simp only[e1,e2];rw[Sem.run_bind,eZ.1];rfl
   ·refine bW h hd (v:=.bool (!b)) ?_ ⟨rfl,rfl⟩ (by simp[kQ]);unfold execOp;rw[ho];simp only[e1,e2];rw[Sem.run_bind,eZ.2];rfl
 ·cases he
theorem aEZ(h:gV E X w0 ρ al fr hp a w)(hd:gY E.nt o=true){op:UnOp}{t:TypeId}{y:Operand}(ho:o.op=.unOp op t y)(he:oR E id o (evA E fr) hp=some (x,u)):iC P E X w0 al fr hp a w o id x u:=by
 have hy:=(h.ev y).1;unfold oR effK at he;rw[ho]at he;simp only at he;split at he
 ·rename_i p zF;rw[zF]at hy;have e1:a.eval y=p:=hy.1;rw[Ft]at he;obtain⟨r,hr,he⟩:=Option.bind_eq_some_iff.1 he;cases he;obtain⟨h1,h2⟩:=aBG (P:=P) op p r w hr;refine bW h hd (v:=r) ?_ ⟨rfl,h2⟩ (by simp[kQ]);unfold execOp;rw[ho];simp only[e1,Sem.run_bind,h1,Result.andThen_ok,Sem.run_pure]
 ·cases he
theorem Ue{s d:TypeId}{ds dd:TypeDesc}{k:TK}(h1:P.underlying s=some ds)(h2:P.underlying d=some dd)(h3:Iq P k dd){p r:Value}(h:convK k p some=some r) :
  (convert s d p).run P w=.ok r w/\r.oneCell'=true:=by
 unfold convert;simp only[Sem.run_bind,run_underlying h1,run_underlying h2,Result.andThen_ok];unfold convK at h;split at h
 ·have h3:dd=.int _:=h3;subst h3;cases h;exact⟨rfl,rfl⟩
 ·have h3:dd=.float _:=h3;subst h3;cases h;exact⟨rfl,rfl⟩
 ·have h3:dd=.int _:=h3;subst h3;obtain⟨n,hn,h⟩:=Option.bind_eq_some_iff.1 h;split at h <;> cases h;rename_i hb;refine⟨?_,rfl⟩;simp[Conv.floatToInt,hn,hb]
 ·have h3:dd=.float _:=h3;subst h3;split at h <;> cases h;rename_i hs;refine⟨?_,rfl⟩;simp[Conv.floatToFloat,hs]
 ·cases h
theorem Qy(h:gV E X w0 ρ al fr hp a w)(hd:gY E.nt o=true)(hT:mH P E.T){s d:TypeId}{y:Operand}(ho:o.op=.convert s d y)(he:oR E id o (evA E fr) hp=some (x,u)):iC P E X w0 al fr hp a w o id x u:=by
 have hy:=(h.ev y).1;unfold oR effK at he;rw[ho]at he;simp only at he;split at he
 ·rename_i t1 ti p hs sF zF;rw[zF]at hy;have e1:a.eval y=p:=hy.1;rw[zH]at he;obtain⟨r,hr,he⟩:=Option.bind_eq_some_iff.1 he;cases he;obtain⟨ds,aQZ,_⟩:=(hT s _ hs).d;obtain⟨dd,aMB,hk⟩:=(hT d _ sF).d;obtain⟨h1,h2⟩:=Ue (P:=P) (w:=w) aQZ aMB hk hr;refine bW h hd (v:=r) ?_ ⟨rfl,h2⟩ (by simp[kQ]);unfold execOp;rw[ho];simp only[e1,Sem.run_bind,h1,Result.andThen_ok,Sem.run_pure]
 ·cases he
theorem Qx(h:gV E X w0 ρ al fr hp a w)(hd:gY E.nt o=true){y:Operand}{i:Nat}(ho:o.op=.extract y i)(he:oR E id o (evA E fr) hp=some (x,u)):iC P E X w0 al fr hp a w o id x u:=by
 have hy:=h.ev y;unfold oR effK at he;rw[ho]at he;simp only at he;split at he
 ·rename_i xs bHD;split at he <;> cases he;rename_i v hv;rw[bHD]at hy;obtain⟨⟨arr,ha,hl,hr⟩,oZ⟩:=hy;obtain⟨q,hq⟩:∃q,arr[i]?=some q:=by
   have:=aR hv;exact⟨arr[i],Array.getElem?_eq_getElem (by omega)⟩
  refine bW h hd (v:=q) ?_ (hr i v q hv hq) (fun j hj=>oZ j (List.mem_flatMap.2 ⟨v,bMA hv,hj⟩));unfold execOp;rw[ho];simp[Instr.extract,ha,hq]
 ·cases he
theorem oX{y:Operand}{k:IntKind}{n:Int}(h:gV E X w0 ρ al fr hp a w)(he:intArg (evA E fr y)=some (k,n)):a.eval y=.int k n:=by
 have hy:=(h.ev y).1;unfold intArg at he;split at he
 ·rename_i k' n' gR;cases he;rw[gR]at hy;exact hy.1
 ·cases he
theorem Js(h:gV E X w0 ρ al fr hp a w)(hd:gY E.nt o=true)(hT:mH P E.T){t:TypeId}{y:Operand}{f:Nat}(ho:o.op=.fieldAddr t y f)(he:oR E id o (evA E fr) hp=some (x,u)):iC P E X w0 al fr hp a w o id x u:=by
 have hy:=h.ev y;unfold oR effK at he;rw[ho]at he;simp only at he;split at he
 ·rename_i s0 b0 z0 fs uD;obtain⟨d,sF,fields,rfl,aQY,hf⟩:=(hT t _ uD).d;have eZ:∀b off o1 size g,fs[f]?=some (o1,size,g)->0<size->a.eval y=.pointer (some ⟨b,off,none⟩)->(execOp a.eval o).run P w=.ok (.value (.pointer (some ⟨b,off+o1,none⟩))) w:=by
   intro b off o1 size g aAV oY gR;have iN:=aR aAV;obtain⟨fi,fd,e1,e2,e3⟩:=hf f fields[f] (Array.getElem?_eq_getElem (by omega));rw[aAV]at e3;cases e3;unfold execOp;rw[ho];have bAA:fields[f]?=some fields[f]:=Array.getElem?_eq_getElem (by omega);simp only[gR,Instr.fieldAt,Instr.sureAddr,Sem.run_bind,run_underlying sF,Result.andThen_ok,bAA,Sem.run_pure,fieldPlace,sizeOf,typeInfo,run_program,e1];rw[aY];simp[jV]
  split at he
  ·rename_i off size g i o1 aAV gR;split at he <;> cases he;rename_i oY;rw[gR]at hy;exact bW h hd (eZ _ _ _ _ _ aAV oY hy.1) rfl hy.2
  ·rename_i off size g cs aAV gR;split at he <;> cases he;rename_i oY;rw[gR]at hy;obtain⟨⟨b,aNR,hb,hc⟩,_⟩:=hy;refine bW h hd (eZ _ _ _ _ _ aAV oY hb) ⟨b,aNR+off,rfl,fun i s hs=>?_⟩ (by simp[refs,refsV,refsL]);rw[bMD]at hs;have:=hc (off+i) s hs;rwa [show aNR+(off+i)=aNR+off+i by omega]at this
  ·cases he
 ·cases he
theorem Gn{t:TypeId}{fi:TypeInfo}{fd:TypeDesc}(h1:P.info? t=some fi)(h2:P.underlying t=some fd){Y:Nat->Prop}{cs:List S}{arr:Array Value}(hr:gF Y w cs arr.toList){off:Nat}{v:V}
  (he:(bif pM fd then(if off+fi.size<=cs.length then some (V.agg ((cs.drop off).take fi.size))else none)else(cs[off]?).map fun c=>V.one (.s c))=some v) :
  ∃q,(part t arr off).run P w=.ok q w/\Bf ρ hp Y w v q/\refsV v=[]:=by
 have hl:cs.length=arr.size:=by simpa using hr.1
 have Tu:(isAgg t).run P w=.ok (pM fd) w:=by
  unfold isAgg;rw[Sem.run_bind,run_underlying h2];cases fd <;> rfl
 unfold part;rw[Sem.run_bind,Tu,Result.andThen_ok];cases hg:pM fd with
 |true =>
  rw[hg]at he;simp only[cond_true]at he;split at he <;> cases he;rename_i hle;refine⟨_,by rw[if_pos rfl,Sem.run_bind];simp only[sizeOf,typeInfo,Sem.run_bind,run_program,Result.andThen_ok,h1,Sem.run_pure];rfl,⟨_,rfl,?_⟩,rfl⟩;refine⟨by simp;omega,fun i s q hs hq=>?_⟩;have hi:i<fi.size:=by have:=aR hs;simp at this;omega
  rw[bLW hi,bMD]at hs;refine hr.2 (off+i) s q hs ?_;have iN:=aR hs;simp at hq;rw[bLW (by omega),bMD]at hq;exact hq
 |false =>
  rw[hg]at he;simp only[cond_false]at he;obtain⟨c,hc,rfl⟩:=Option.map_eq_some_iff.1 he;have iN:=aR hc;have hq:arr[off]?=some arr[off]:=Array.getElem?_eq_getElem (by omega);refine⟨arr[off],by simp[hq],hr.2 off c _ hc (by simp[<-hq]),rfl⟩
theorem Zs(h:gV E X w0 ρ al fr hp a w)(hd:gY E.nt o=true)(hT:mH P E.T){t:TypeId}{y:Operand}{f:Nat}(ho:o.op=.field t y f)(he:oR E id o (evA E fr) hp=some (x,u)):iC P E X w0 al fr hp a w o id x u:=by
 have hy:=(h.ev y).1;unfold oR effK at he;rw[ho]at he;simp only at he;split at he
 ·rename_i s0 b0 z0 fs uD;obtain⟨d,sF,fields,rfl,aQY,hf⟩:=(hT t _ uD).d;split at he
  ·rename_i off size g cs aAV gR;split at he <;> cases he;rename_i v hv;rw[gR]at hy;obtain⟨arr,ha,hr⟩:=hy;have iN:=aR aAV;obtain⟨fi,fd,e1,e2,e3⟩:=hf f fields[f] (Array.getElem?_eq_getElem (by omega));rw[aAV]at e3;cases e3;obtain⟨q,Mw,aZH,aZG⟩:=Gn (P:=P) (ρ:=ρ) (hp:=hp) e1 e2 hr hv;refine bW h hd (v:=q) ?_ aZH (by simp[refs,aZG]);have bAA:fields[f]?=some fields[f]:=Array.getElem?_eq_getElem (by omega);unfold execOp;rw[ho];simp only[Instr.field,Sem.run_bind,run_underlying sF,Result.andThen_ok,bAA,ha,asAgg,Sem.run_pure,Mw]
  ·cases he
 ·cases he
theorem Zr(h:gV E X w0 ρ al fr hp a w)(hd:gY E.nt o=true)(hT:mH P E.T){t:TypeId}{y z:Operand}(ho:o.op=.index t y z)(he:oR E id o (evA E fr) hp=some (x,u)):iC P E X w0 al fr hp a w o id x u:=by
 have hy:=(h.ev y).1;unfold oR effK at he;rw[ho]at he;simp only at he;split at he
 ·rename_i s0 b0 z0 len nQ g cs k n uD gR aUE;have hz:=oX h aUE;split at he
  ·rename_i iN;rw[aJE cs iN]at he;split at he <;> cases he;rename_i v hv;rw[gR]at hy;obtain⟨arr,ha,hr⟩:=hy;obtain⟨d,sF,e,ei,ed,rfl,Xe,aJL,bEK,bEJ⟩:=(hT t _ uD).d;subst aJL;subst bEJ;obtain⟨q,Mw,aZH,aZG⟩:=Gn (P:=P) (ρ:=ρ) (hp:=hp) Xe bEK hr hv;refine bW h hd (v:=q) ?_ aZH (by simp[refs,aZG]);unfold execOp;rw[ho];simp only[Instr.index,Sem.run_bind,hz,asIntOf,Sem.run_pure,run_underlying sF,Result.andThen_ok,ha];rw[if_pos iN];simp only[sizeOf,typeInfo,Sem.run_bind,run_program,Result.andThen_ok,Xe,Sem.run_pure,Mw]
  ·cases he
 ·rename_i s0 b0 z0 s k n uD gR aUE;have hz:=oX h aUE;split at he
  ·rename_i iN;cases he;rw[gR]at hy;obtain⟨ha,_⟩:=hy;obtain⟨d,sF,rfl⟩:=(hT t _ uD).d;refine bW h hd (v:=.int .u8 (Di s n)) ?_ ⟨rfl,rfl⟩ (by intro i hi;cases hi);unfold execOp;rw[ho];have aTY:n.toNat<s.size:=by omega
   have hs:(if 0<=n then s[n.toNat]? else none)=some s[n.toNat]:=by
    rw[if_pos iN.1];exact getElem?_pos s n.toNat aTY
   have Za:Di s n=(s[n.toNat].toNat:Int):=by
    unfold Di;rw[getElem?_pos s n.toNat aTY]
   simp only[Instr.index,Sem.run_bind,hz,asIntOf,Sem.run_pure,run_underlying sF,Result.andThen_ok,ha,hs,Za]
  ·cases he
 ·cases he
end
end AI
namespace AI
open Go Go.RowKit
section
variable {P:Program} {E:Env} {X:Nat->Prop} {w0:Old} {ρ:Nat->Nat} {al:Nat->Prop} {fr:Nat->A} {hp:Nat->Option iM} {a:Act} {w:World} {o:Oper} {id:Nat} {x:A} {u:nV}
theorem wF{R:Type}{n:Int}{K:Nat->Option R}{r:R}:∀{m j:Nat},splitN n m j K=some r->∃i,j<=i/\i<j+m/\n=(i:Int)/\K i=some r
 |0,_,h=>by cases h
 |m+1,j,h=>by
  unfold splitN at h
  by_cases hc:n=(j:Int)
  ·rw[decide_eq_true hc]at h;exact⟨j,bLR _,by omega,hc,h⟩
  ·rw[decide_eq_false hc]at h;obtain⟨i,h1,h2,h3,h4⟩:=wF (m:=m) (j:=j+1) h;exact⟨i,by omega,by omega,h3,h4⟩
theorem Yv{R:Type}{sh:Bool}{hp:Nat->Option iM}{t:TI}{nQ:Nat}{x:A}{n:Int}{K:A->Option R}{r:R}(h:idxS sh hp t nQ x n K=some r):idxK hp t nQ x n K=some r:=by
 unfold idxS at h;split at h
 ·split at h
  ·obtain⟨i,_,_,hn,h⟩:=wF h;rw[hn];exact h
  ·exact h
 ·exact h
theorem wrap_small{n:Int}(h0:0<=n)(h1:n<=room):i64.wrap n=n:=by
 unfold room at h1;unfold IntKind.wrap;simp only[IntKind.bits,IntKind.signed];have e:n%(2^64:Int)=n:=by omega
 simp only[e];rw[if_neg (by simp;omega)]
theorem run_make(w:World)(t e:TypeId)(i:TypeInfo)(z:Value)(hu:P.underlying t=some (.slice e))(hi:P.info? e=some i)(hz:i.zero=some z)(kl kc:IntKind)(l c:Int)(h0:0<=l)(h1:l<=c)(h2:c<=room)(hb:i.bytes<=8) :
  (Instr.makeSlice t (.int kl l) (.int kc c)).run P w=.ok (.slice (some ⟨w.heap.size,0,none⟩) l.toNat c.toNat) (w.alloc (.cells ((Array.range (c.toNat*i.size)).map (z.cells[·%z.cells.size]!)) e)):=by
 have e1:i64.wrap l=l:=wrap_small h0 (by omega);have e2:i64.wrap c=c:=wrap_small (by omega) h2;have hbc:¬((i.bytes:Int)*c>2^48):=by
  have:(i.bytes:Int)*c<=8*c:=bOB (by omega) (by omega);unfold room at h2;omega
 have aMF:¬((i.bytes:Int)*l>2^48):=by
  have:(i.bytes:Int)*l<=8*l:=bOB (by omega) (by omega);unfold room at h2;omega
 unfold Instr.makeSlice;simp only[Sem.run_bind,run_underlying hu,Result.andThen_ok,asInt,asIntOf,Sem.run_pure,typeInfo,run_program,hi,e1,e2];rw[if_neg (by simp;omega)];have pO:∀w:World,(sizeOf e).run P w=.ok i.size w:=fun w=>by simp[sizeOf,typeInfo,hi]
 have aDJ:∀w:World,(zeroValue e).run P w=.ok z w:=fun w=>by simp[zeroValue,typeInfo,hi,hz]
 simp only[Sem.run_bind,run_askRoom,Result.andThen_ok,pO]
 by_cases hc:c.toNat*i.size=0
 ·rw[if_pos hc];have e0:∀(f g:Nat->Value),Array.map f (Array.range 0)=Array.map g (Array.range 0):=fun f g=>by simp[Array.range]
  simp only[Sem.run_bind,Sem.run_pure,Result.andThen_ok,hc];rw[e0 _ (fun x=>z.cells[x%z.cells.size]!)];rfl
 ·rw[if_neg hc];simp only[Sem.run_bind,aDJ,Sem.run_pure,Result.andThen_ok];rfl
theorem Jq (h : gV E X w0 ρ al fr hp a w) (hd : gY E.nt o = true) (hT : mH P E.T) (tM : ∀ j, j < 8 → ¬ al (id + j)) {t : TypeId} {y z : Operand} (ho : o.op = .makeSlice t y z) (he : oR E id o (evA E fr) hp = some (x, u)) : iC P E X w0 al fr hp a w o id x u := by
  unfold oR effK at he
  rw [ho] at he
  simp only at he
  split at he
  · rename_i s0 b0 z0 e k1 l k2 c uD aZP bED
    have hy := oX h aZP
    have hz := oX h bED
    have ht := hT t _ uD
    obtain ⟨d, sF, zP⟩ := ht.d
    have zP : d = .slice e := zP
    subst zP
    split at he
    · rename_i bytes k0 z0' k Iz
      have Hd := hT e _ Iz
      obtain ⟨i, hi, pO, aME, zv, aDJ, Jk⟩ := Hd.i
      split at he
      · rename_i Hi
        split at he <;> cases he
        rename_i Hh
        obtain ⟨h0, h1, h2⟩ := Hh
        have pO : i.size = 1 := pO
        have aME : i.bytes = bytes := aME
        have eZ := run_make (P := P) w t e i zv sF hi aDJ k1 k2 l c h0 h1 h2 (by omega)
        obtain ⟨_, _, rfl, rfl⟩ := Hi
        have Jk : zv.cells.toList = [.int k0 0] := Jk
        have aLS : zv.cells.size = 1 := by have : zv.cells.toList.length = 1 := by rw [Jk]; rfl
                                           simpa using this
        have aJF : zv.cells[0]! = .int k0 0 := by
          rw [getElem!_pos zv.cells 0 (by omega)]
          have : zv.cells.toList[0]? = some (.int k0 0) := by rw [Jk]; rfl
          simpa [Array.getElem?_eq_getElem (show 0 < zv.cells.size by omega)] using this
        have h3 := h.alloc (id := id) (al' := mB al id) (tM 0 (by omega)) (fun _ h => .inl h) (oF id) e (.ints k0 (bNU l.toNat 0)) ((Array.range (c.toNat * i.size)).map (zv.cells[· % zv.cells.size]!)) (by
          refine ⟨by simp [pO]; omega, fun j n hn => ?_⟩
          have hj := aR hn
          simp at hj
          rw [List.getElem?_replicate, if_pos (by omega)] at hn
          cases hn
          have bIT : j < c.toNat := by omega
          simp only [aLS, Nat.mod_one, aJF, pO, bMB]
          simp [bIT])
        refine ⟨_, .slice (some ⟨w.heap.size, 0, none⟩) l.toNat c.toNat, _, .inl ?_, h3.pure hd (x := .v (.one (.buf id l.toNat))) ?_ ?_⟩
        · unfold execOp
          rw [ho]
          simp only [hy, hz, Sem.run_bind, eZ, Result.andThen_ok, Sem.run_pure]
        · refine ⟨c.toNat, by rw [bG], by omega, fun blk k' ns hb hk => ?_, fun blk cs hb hk => by rw [bG] at hb; cases hb; cases hk⟩
          rw [bG] at hb
          cases hb
          cases hk
          refine ⟨by simp, by unfold room at h2; unfold maxLen; omega, ?_⟩
          rw [bG, jA (tP w _)]
          simp [pO]
        · intro i hi
          simp only [refs, refsV, refsL, bMI] at hi
          subst hi
          exact oF i
      · cases he
    · cases he
  · cases he
theorem tR(h:gV E X w0 ρ al fr hp a w){d l:Int}{y:Option Operand}(he:bndA d (y.map (evA E fr))=some l):(y=none/\l=d)\/∃z k,y=some z/\a.eval z=.int k l:=by
 cases y with
 |none=>cases he;exact .inl ⟨rfl,rfl⟩
 |some z =>
  refine .inr ⟨z,?_⟩;have hz:=(h.ev z).1;simp only[bME]at he;unfold bndA at he;split at he
  ·cases ‹some _=none›
  ·rename_i k n gR;cases he;have gR:evA E fr z=.v (.one (.s (.sc (.int k l)))):=Option.some.inj gR;rw[gR]at hz;exact⟨k,rfl,hz.1⟩
  ·cases he
theorem run_sliceBound(k:IntKind)(n:Int)(y:Nat)(c:BoundsCode)(h0:0<=n)(h1:n<=y):(Instr.sliceBound (.int k n) y c).run P w=.ok n.toNat w:=by
 unfold Instr.sliceBound;simp only[Sem.run_bind,asIntOf,Sem.run_pure,Result.andThen_ok];rw[if_pos ⟨h0,h1⟩];rfl
theorem Su(len cap:Nat)(aQU:len<=cap)(lo hi mx:Option Operand)(h:gV E X w0 ρ al fr hp a w)
  {R:Type} {K:Nat->Nat->Option R} {r:R} (he:sliceK len (lo.map (evA E fr)) (hi.map (evA E fr)) (mx.map (evA E fr)) K=some r) :
  ∃l h' m,K l h'=some r/\l<=h'/\h'<=len/\h'<=m/\m<=cap/\(Instr.sliceBounds true len cap (lo.map a.eval) (hi.map a.eval) (mx.map a.eval)).run P w=.ok (l,h',m) w:=by
 unfold sliceK at he;split at he
 ·rename_i l h' hl hh hm;have bIF:mx=none:=by cases mx with
   |none=>rfl
   |some y=>cases hm
  subst bIF;split at he
  ·rename_i hc;obtain⟨c0,c1,c2⟩:=hc;refine⟨l.toNat,h'.toNat,cap,he,by omega,by omega,by omega,bLR _,?_⟩;unfold Instr.sliceBounds;rcases tR h hh with ⟨rfl,rfl⟩ |⟨yh,kh,rfl,aUC⟩
   ·rcases tR h hl with ⟨rfl,rfl⟩ |⟨yl,kl,rfl,aAT⟩
    ·rfl
    ·simp only[bOC,bME,Sem.run_bind,Sem.run_pure,Result.andThen_ok,aAT,Option.isSome_none];rw[run_sliceBound kl l len _ c0 (by omega)];rfl
   ·simp only[bOC,bME,Sem.run_bind,Sem.run_pure,Result.andThen_ok,aUC];rw[run_sliceBound kh h' cap _ (by omega) (by omega)];simp only[Result.andThen_ok];rcases tR h hl with ⟨rfl,rfl⟩ |⟨yl,kl,rfl,aAT⟩
    ·rfl
    ·simp only[bME,aAT,Sem.run_bind];rw[run_sliceBound kl l h'.toNat _ c0 (by omega)];rfl
  ·cases he
 ·rename_i l h' mxa hl hh hm;split at he
  ·rename_i ya m bHB bEB;split at he
   ·rename_i hc;obtain⟨c0,c1,c2,c3⟩:=hc;obtain⟨ym,rfl,km,aZT⟩:∃ym,mx=some ym/\∃km,a.eval ym=.int km m:=by
     rw[<-hm]at bEB;rcases tR h bEB with ⟨rfl,_⟩ |⟨ym,km,rfl,aZT⟩
     ·cases hm
     ·exact⟨ym,rfl,km,aZT⟩
    obtain⟨yh,rfl,kh,aUC⟩:∃yh,hi=some yh/\∃kh,a.eval yh=.int kh h':=by
     rcases tR h hh with ⟨rfl,_⟩ |⟨yh,kh,rfl,aUC⟩
     ·cases bHB
     ·exact⟨yh,rfl,kh,aUC⟩
    refine⟨l.toNat,h'.toNat,m.toNat,he,by omega,by omega,by omega,by omega,?_⟩;unfold Instr.sliceBounds;simp only[bME,Sem.run_bind,aZT];rw[run_sliceBound km m cap _ (by omega) (by omega)];simp only[Result.andThen_ok,aUC];rw[run_sliceBound kh h' m.toNat _ (by omega) (by omega)];simp only[Result.andThen_ok];rcases tR h hl with ⟨rfl,rfl⟩ |⟨yl,kl,rfl,aAT⟩
    ·rfl
    ·simp only[bME,aAT,Sem.run_bind];rw[run_sliceBound kl l h'.toNat _ c0 (by omega)];rfl
   ·cases he
  ·cases he
 ·cases he
theorem kO{t e:TypeId}{size:Nat}(hu:P.underlying t=some (.slice e))(hs:(sizeOf e).run P w=.ok size w)(A0:Option Addr)(len cap:Nat)(aQU:len<=cap)(lo hi mx:Option Operand)(h:gV E X w0 ρ al fr hp a w)
  {R:Type} {K:Nat->Nat->Option R} {r:R} (he:sliceK len (lo.map (evA E fr)) (hi.map (evA E fr)) (mx.map (evA E fr)) K=some r) :
  ∃l h' m,K l h'=some r/\l<=h'/\h'<=len/\h'<=m/\m<=cap/\(Instr.sliceAt t (.slice A0 len cap) (lo.map a.eval) (hi.map a.eval) (mx.map a.eval)).run P w=.ok (.slice (if m=l then A0 else A0.map (·.add (l*size))) (h'-l) (m-l)) w:=by
 obtain⟨l,h',m,h1,h2,h3,h4,h5,eZ⟩:=Su (P:=P) len cap aQU lo hi mx h he;refine⟨l,h',m,h1,h2,h3,h4,h5,?_⟩;unfold Instr.sliceAt;rw[Sem.run_bind,run_underlying hu,Result.andThen_ok];simp only[Instr.slice,Sem.run_bind,run_underlying hu,Result.andThen_ok,eZ,hs,Sem.run_pure]
theorem Zq(h:gV E X w0 ρ al fr hp a w)(hd:gY E.nt o=true)(hT:mH P E.T){t:TypeId}{y:Operand}{lo hi mx:Option Operand}(ho:o.op=.slice t y lo hi mx)(he:oR E id o (evA E fr) hp=some (x,u)):iC P E X w0 al fr hp a w o id x u:=by
 have hy:=h.ev y;unfold oR effK at he;rw[ho]at he;simp only at he;split at he
 ·rename_i s0 b0 z0 e uD;obtain⟨d,sF,zP⟩:=(hT t _ uD).d;have zP:d=.slice e:=zP;subst zP;split at he
  ·rename_i bytes zero k Iz;have pO:=(hT e _ Iz).run_sizeOf (w:=w);have hex:∀v,(Instr.sliceAt t (a.eval y) (lo.map a.eval) (hi.map a.eval) (mx.map a.eval)).run P w=.ok v w->(execOp a.eval o).run P w=.ok (.value v) w:=by
    intro v hv;unfold execOp;rw[ho];simp only[Sem.run_bind,hv,Result.andThen_ok,Sem.run_pure]
   split at he
   ·rename_i k' ns gR;split at he
    ·rename_i hk;subst hk;rw[gR]at hy;obtain⟨⟨A0,c,hv,aQU,iD⟩,_⟩:=hy;obtain⟨l,h',m,hK,h1,h2,h3,h4,eZ⟩:=kO (P:=P) sF pO A0 ns.length c aQU lo hi mx h he;obtain⟨e1,e2⟩:=Prod.mk.inj (Option.some.inj hK);rw[<-e1,<-e2];rw[<-hv]at eZ;have hlen:((ns.take h').drop l).length=h'-l:=by simp;omega
     refine bW h hd (hex _ eZ) ⟨_,m-l,by rw[hlen],by rw[hlen];omega,fun i n hn=>?_⟩ (by simp[refs,refsV,refsL]);rw[bMD,List.getElem?_take]at hn;split at hn
     ·rename_i hli;obtain⟨b,off,hA,hb,hx,hc⟩:=iD (l+i) n hn;refine⟨b,off+l,?_,hb,hx,by rw[<-hc];congr 2;omega⟩;rw[aY,hA];simp[jV]
     ·cases hn
    ·cases he
   ·rename_i gR;rw[gR]at hy;have hv:a.eval y=.slice none 0 0:=hy.1.1;obtain⟨l,h',m,hK,h1,h2,h3,h4,eZ⟩:=kO (P:=P) sF pO none 0 0 (bLR _) lo hi mx h he;obtain⟨e1,e2⟩:=Prod.mk.inj (Option.some.inj hK);rw[<-e1,<-e2];rw[<-hv]at eZ;have hlen:h'-l=([]:List Int).length:=by simp;omega
    exact bW h hd (hex _ eZ) ⟨_,m-l,by rw[hlen],by simp,fun i n hn=>by simp at hn⟩ (by simp[refs,refsV,refsL])
   ·rename_i i n gR;rw[gR]at hy;obtain⟨⟨cap,hv,yH,hc,_⟩,oZ⟩:=hy;obtain⟨l,h',m,hK,h1,h2,h3,h4,eZ⟩:=kO (P:=P) sF pO _ n cap yH lo hi mx h he;obtain⟨e1,e2⟩:=Prod.mk.inj (Option.some.inj hK);rw[<-e1,<-e2];rw[<-hv]at eZ;refine bW h hd (hex _ eZ) ⟨if m=l then 0 else l,m-l,?_,by omega,fun oY=>?_,fun h0=>?_,fun blk k' ns hb hk=>?_⟩ oZ
    ·congr 1;split <;> simp_all [jV]
    ·rw[aY]
    ·split <;> omega
    ·have:=hc blk k' ns hb hk;exact⟨by omega,by omega,by omega⟩
   ·rename_i i off n gR;rw[gR]at hy;obtain⟨⟨o',cap,hv,yH,hA,hA0,hc⟩,oZ⟩:=hy;obtain⟨l,h',m,hK,h1,h2,h3,h4,eZ⟩:=kO (P:=P) sF pO _ n cap yH lo hi mx h he;obtain⟨e1,e2⟩:=Prod.mk.inj (Option.some.inj hK);rw[<-e1,<-e2];rw[<-hv]at eZ;refine bW h hd (hex _ eZ) ⟨if m=l then o' else o'+l,m-l,?_,by omega,fun oY=>?_,fun h0=>?_,fun blk k' ns hb hk=>?_⟩ oZ
    ·congr 1;split <;> simp_all [jV]
    ·rw[aY,hA (by omega)]
    ·have:=hA0 (by omega);split <;> omega
    ·have:=hc blk k' ns hb hk;exact⟨by omega,by omega,by omega⟩
   ·cases he
  ·rename_i te _ Iz;have pO:=(hT e _ Iz).run_sizeOf (w:=w);split at he
   ·rename_i sz n f gR;split at he
    ·rename_i aYZ;subst aYZ;rw[gR]at hy;obtain⟨⟨A0,cap,hv,yH,aOE⟩,_⟩:=hy;obtain⟨l,h',m,hK,h1,h2,h3,h4,eZ⟩:=kO (P:=P) sF pO A0 n cap yH lo hi mx h he;obtain⟨e1,e2⟩:=Prod.mk.inj (Option.some.inj hK);rw[<-e1,<-e2];rw[<-hv]at eZ;have hex:(execOp a.eval o).run P w=.ok (.value (.slice (if m=l then A0 else A0.map (·.add (l*te.size))) (h'-l) (m-l))) w:=by
      unfold execOp;rw[ho];simp only[Sem.run_bind,eZ,Result.andThen_ok,Sem.run_pure]
     refine bW h hd hex ⟨_,m-l,rfl,by omega,fun i hi=>?_⟩ (by simp[refs,refsV,refsL]);obtain⟨r1,b,off,hA,r2⟩:=aOE (l+i) (by omega);refine⟨r1,b,off+l*te.size,?_,?_⟩
     ·rw[aY,hA];simp[jV]
     ·rw[show off+l*te.size+i*te.size=off+(l+i)*te.size by rw[bML];omega];exact r2
    ·cases he
   ·cases he
  ·cases he
 ·cases he
theorem Al{α:Type}{x y:α}{i:Nat}(h:[x][i]?=some y):i=0/\y=x:=by
 match i with
 |0=>simp at h;exact⟨rfl,h.symm⟩
 |i+1=>simp at h
theorem Jr(h:gV E X w0 ρ al fr hp a w)(hd:gY E.nt o=true)(hT:mH P E.T){t:TypeId}{y z:Operand}(ho:o.op=.indexAddr t y z)(he:oR E id o (evA E fr) hp=some (x,u)):iC P E X w0 al fr hp a w o id x u:=by
 have hy:=h.ev y;unfold oR effK at he;rw[ho]at he;simp only at he;split at he
 ·rename_i ti k n uD aUE;have hz:=oX h aUE;have ht:=hT t _ uD;obtain⟨d,sF,zP⟩:=ht.d;split at he
  ·
   rename_i e Qj;rw[Qj]at zP;have zP:d=.slice e:=zP;subst zP;split at he
   ·rename_i te Iz;have pO:=(hT e _ Iz).run_sizeOf (w:=w);have hex:∀b off len cap,a.eval y=.slice (some ⟨b,off,none⟩) len cap->0<=n/\n<(len:Int)->(execOp a.eval o).run P w=.ok (.value (.pointer (some ⟨b,off+n.toNat*te.size,none⟩))) w:=by
     intro b off len cap hv hn;unfold execOp;rw[ho];simp only[hv,hz,Instr.indexAt,Sem.run_bind,asIntOf,Sem.run_pure,Result.andThen_ok,run_underlying sF];rw[if_pos hn];simp only[Sem.run_bind,pO,Result.andThen_ok,Sem.run_pure,jV]
    split at he
    ·cases he
    ·cases he
    ·rename_i xa Xb aTU;have he:=Yv he;unfold idxK at he;split at he
     ·rename_i k' ns gR;rw[gR]at hy;obtain⟨⟨A0,c,hv,aQU,iD⟩,_⟩:=hy;split at he
      ·rename_i aOQ;split at he
       ·rename_i hn;obtain⟨e1,e2⟩:=Prod.mk.inj (Option.some.inj he);rw[<-e1,<-e2];have iN:n.toNat<ns.length:=by omega
        obtain⟨b,off,hA,hb,hx,hc⟩:=iD n.toNat ns[n.toNat] (bMH iN);subst hA;refine bW h hd (hex b off ns.length c hv hn) ⟨b,off+n.toNat*te.size,rfl,fun i s hs=>?_⟩ (by simp[refs,refsV,refsL]);obtain⟨rfl,rfl⟩:=Al hs;refine⟨hb,hx,_,by rw[aOQ,bMB,bMS];exact hc,?_,rfl⟩;simp[bNL,iN]
       ·cases he
      ·cases he
     ·rename_i i m gR;rw[gR]at hy;obtain⟨⟨cap,hv,yH,hc,_⟩,oZ⟩:=hy;split at he
      ·rename_i e' k' ns hb;split at he
       ·rename_i aOQ;split at he
        ·rename_i hn;obtain⟨e1,e2⟩:=Prod.mk.inj (Option.some.inj he);rw[<-e1,<-e2];refine bW h hd (hex _ _ m cap hv hn) ⟨by rw[aOQ,bLT,bMB],fun blk k1 Sa vK Eg=>?_⟩ oZ;have:=(hc blk k1 Sa vK Eg).1;omega
        ·cases he
       ·cases he
      ·rename_i e' cs hb;split at he
       ·rename_i hn;obtain⟨e1,e2⟩:=Prod.mk.inj (Option.some.inj he);rw[<-e1,<-e2];refine bW h hd (hex _ _ m cap hv hn) ?_ oZ;show _=_;rw[bLT]
       ·cases he
      ·cases he
     ·rename_i i off m gR;rw[gR]at hy;obtain⟨hy,oZ⟩:=hy;obtain⟨A0,cap,hv,yH,hA,hc⟩:=tB hy;split at he
      ·rename_i e' k' ns hb;split at he
       ·rename_i aOQ;split at he
        ·rename_i hn;obtain⟨e1,e2⟩:=Prod.mk.inj (Option.some.inj he);rw[<-e1,<-e2];have hA:=hA (by omega);subst hA;refine bW h hd (hex _ _ m cap hv hn) ⟨by rw[aOQ,bMB],fun blk k1 Sa vK Eg=>?_⟩ oZ;have:=hc blk k1 Sa vK Eg;omega
        ·cases he
       ·cases he
      ·cases he
     ·rename_i sz m f gR;rw[gR]at hy;obtain⟨⟨A0,c,hv,aQU,iD⟩,_⟩:=hy;split at he
      ·rename_i aOQ;split at he
       ·rename_i hn;obtain⟨e1,e2⟩:=Prod.mk.inj (Option.some.inj he);rw[<-e1,<-e2];obtain⟨aQY,b,off,hA,hc⟩:=iD n.toNat (by omega);subst hA;exact bW h hd (hex b off m c hv hn) ⟨b,off+n.toNat*te.size,rfl,by rw[<-aOQ];exact hc⟩ (by simp[refs,refsV,refsL])
       ·cases he
      ·cases he
     ·exact absurd ‹_› (Xb _ _)
     ·exact absurd ‹_› (aTU _ _)
     ·cases he
   ·cases he
  ·
   rename_i len nQ g Qj;rw[Qj]at zP;obtain⟨e,ei,ed,rfl,Xe,aJL,bEK,bEJ⟩:=zP;have pO:(sizeOf e).run P w=.ok nQ w:=by simp[sizeOf,typeInfo,Xe,aJL]
   have hex:∀b off,a.eval y=.pointer (some ⟨b,off,none⟩)->0<=n/\n<(len:Int)->(execOp a.eval o).run P w=.ok (.value (.pointer (some ⟨b,off+n.toNat*nQ,none⟩))) w:=by
    intro b off hv hn;unfold execOp;rw[ho];simp only[hv,hz,Instr.indexAt,Sem.run_bind,asIntOf,Sem.run_pure,Result.andThen_ok,run_underlying sF,Instr.sureAddr];rw[if_pos hn];simp only[Sem.run_bind,pO,Result.andThen_ok,Sem.run_pure,jV]
   split at he
   ·rename_i i off gR;rw[gR]at hy;simp only[idxK,Qj]at he;cases hb:bLU len 8 with
    |true =>
     rw[hb,cond_true]at he;obtain⟨j,_,hj,hn,he⟩:=wF he;obtain⟨e1,e2⟩:=Prod.mk.inj (Option.some.inj he);rw[<-e1,<-e2];have hx:=hex _ _ hy.1 (by omega);rw[hn,Int.toNat_natCast]at hx;exact bW h hd hx rfl hy.2
    |false =>
    rw[hb,cond_false]at he;split at he
    ·rename_i hn;obtain⟨e1,e2⟩:=Prod.mk.inj (Option.some.inj he);rw[<-e1,<-e2];exact bW h hd (hex _ _ hy.1 hn) rfl hy.2
    ·cases he
   ·rename_i k' ns gR;rw[gR]at hy;obtain⟨⟨b,off,hv,hc⟩,_⟩:=hy;simp only[idxK,Qj]at he;split at he
    ·rename_i hl;split at he
     ·rename_i hn;obtain⟨e1,e2⟩:=Prod.mk.inj (Option.some.inj he);rw[<-e1,<-e2];have iN:n.toNat<ns.length:=by omega
      refine bW h hd (hex _ _ hv hn) ⟨b,off+n.toNat*nQ,rfl,fun i s hs=>?_⟩ (by simp[refs,refsV,refsL]);obtain⟨rfl,rfl⟩:=Al hs;have:=hc n.toNat (.sc (.int k' (ns.getD n.toNat 0))) (by simp[tK,bNL,iN]);rw[hl.2,bMB,bMS];exact this
     ·cases he
    ·cases he
   ·cases he
  ·cases he
 ·cases he
theorem foldMM_sound(op:BinOp)(bt:Value->Value->Sem Value)(aUT:∀k n m,∀w,(bt (.int k n) (.int k m)).run P w=.ok (.int k (match op with | .gtr=>if m>n then m else n |_=>if m<n then m else n)) w)(h:gV E X w0 ρ al fr hp a w)(k:IntKind):∀(ys:List Operand) (n r:Int),
  foldMM op k n (ys.map (evA E fr))=some r->((ys.map a.eval).foldlM bt (.int k n)).run P w=.ok (.int k r) w
 | [],n,r,he=>by cases he;rfl
 |y :: ys,n,r,he=>by
  simp only[bLQ]at he ⊢;unfold foldMM at he;split at he
  ·cases ‹_ :: _=[]›
  ·rename_i n0 k' m rest gR;obtain⟨gR,vJ⟩:=List.cons.inj gR;split at he
   ·rename_i hk;subst hk;have hy:=(h.ev y).1;rw[gR]at hy;have hy:a.eval y=.int k m:=hy.1;rw[<-vJ]at he;have ih:=foldMM_sound op bt aUT h k ys _ r he;simp only[List.foldlM_cons,Sem.run_bind,hy,aUT,Result.andThen_ok];exact ih
   ·cases he
  ·cases he
theorem Tj(h:gV E X w0 ρ al fr hp a w){y:Operand}{n:Nat}(he:lenA (evA E fr y)=some n):∃A0 cap,a.eval y=.slice A0 n cap:=by
 have hy:=(h.ev y).1;unfold lenA at he;split at he
 ·rename_i k ns gR;cases he;rw[gR]at hy;obtain⟨A0,c,hv,_⟩:=hy;exact⟨A0,c,hv⟩
 ·rename_i gR;cases he;rw[gR]at hy;exact⟨none,0,hy.1⟩
 ·rename_i i n' gR;cases he;rw[gR]at hy;obtain⟨cap,hv,_⟩:=hy;exact⟨_,cap,hv⟩
 ·rename_i i off n' gR;cases he;rw[gR]at hy;obtain⟨A0,cap,hv,_⟩:=tB hy;exact⟨A0,cap,hv⟩
 ·rename_i sz n' f gR;cases he;rw[gR]at hy;obtain⟨A0,cap,hv,_⟩:=hy;exact⟨A0,cap,hv⟩
 ·cases he
theorem qM(h:gV E X w0 ρ al fr hp a w){k:IntKind}{y:Operand}{ns:List Int}(he:intsOf hp k (evA E fr y)=some ns) :
  ∃A0 cap,a.eval y=.slice A0 ns.length cap/\∀(i:Nat) (n:Int),ns[i]?=some n->∃ad,A0=some ad/\w.cell? (ad.add i)=some (.int k n):=by
 have hy:=(h.ev y).1;unfold intsOf at he;split at he
 ·rename_i k' lC gR;split at he <;> cases he;rename_i hk;subst hk;rw[gR]at hy;obtain⟨A0,c,hv,hle,hc⟩:=hy;refine⟨A0,c,hv,fun i n hn=>?_⟩;obtain⟨b,off,hA,_,_,aEC⟩:=hc i n hn;exact⟨_,hA,by rw[jV];exact aEC⟩
 ·rename_i gR;cases he;rw[gR]at hy;exact⟨none,0,hy.1,fun i n hn=>by simp at hn⟩
 ·rename_i i m gR;split at he
  ·rename_i e k' lC hb;split at he <;> cases he;rename_i hk;subst hk;rw[gR]at hy;obtain⟨cap,hv,hle,hc,_⟩:=hy;obtain⟨hm,_⟩:=hc _ k ns hb rfl;subst hm;refine⟨_,cap,hv,fun j n hn=>⟨_,rfl,?_⟩⟩;rw[jV,bLT];exact h.uV hb hn
  ·cases he
 ·rename_i i off m gR;split at he
  ·rename_i e k' lC hb;split at he <;> cases he;rename_i hk;subst hk;rw[gR]at hy;obtain⟨A0,cap,hv,hle,hA,hc⟩:=tB hy;have hl:=hc _ k lC hb rfl;have hlen:((lC.drop off).take m).length=m:=by simp;omega
   refine⟨A0,cap,by rw[hlen];exact hv,fun j n hn=>?_⟩;have hj:j<m:=by have:=aR hn;omega
   refine⟨_,hA (by omega),?_⟩;rw[jV];rw[bLW hj,bMD]at hn;exact h.uV hb hn
  ·cases he
 ·cases he
theorem jE{b:Builtin}{args:Array Operand}{uC:Array TypeId}(ho:o.op=.call ⟨.builtin b,args,uC⟩){f:Array TypeId->TypeId->Array Value->Sem Value}(hf:∀consts vs,builtin b uC o.type consts vs=(do pure (.value (<-f uC o.type vs)):Sem Next)){v:Value}{w':World}(hr:(f uC o.type (args.map a.eval)).run P w=.ok v w') :
  (execOp a.eval o).run P w=.ok (.value v) w':=by
 unfold execOp;rw[ho];simp only[resolve,Sem.run_bind,Sem.run_pure,Result.andThen_ok,invoke,hf,hr]
theorem aCZ(k:IntKind)(n m:Int)(w:World):(Builtin.max2 (.int k n) (.int k m)).run P w=.ok (.int k (if m>n then m else n)) w:=(rfl:_=Result.ok (Value.int k (@ite Int (m>n) (Int.decLt n m) m n)) w).trans (by congr)
theorem aCY(k:IntKind)(n m:Int)(w:World):(Builtin.min2 (.int k n) (.int k m)).run P w=.ok (.int k (if m<n then m else n)) w:=(rfl:_=Result.ok (Value.int k (@ite Int (m<n) (Int.decLt m n) m n)) w).trans (by congr)
theorem aJZ(h:gV E X w0 ρ al fr hp a w)(hd:gY E.nt o=true)(hT:mH P E.T){args:Array Operand}{uC:Array TypeId}(ho:o.op=.call ⟨.builtin .len,args,uC⟩)(he:oR E id o (evA E fr) hp=some (x,u)):iC P E X w0 al fr hp a w o id x u:=by
 obtain⟨args⟩:=args;obtain⟨uC⟩:=uC;unfold oR effK at he;rw[ho]at he;simp only[builtinK]at he
 match args,uC,he with
 | [y],[t],he =>
  simp only[bLQ,bMJ]at he;split at he
  ·rename_i s0 b0 z0 e n uD hlen;cases he;obtain⟨d,sF,zP⟩:=(hT t _ uD).d;have zP:d=.slice e:=zP;subst zP;obtain⟨A0,cap,hv⟩:=Tj h hlen;refine bW h hd (v:=.int .i64 n) (jE ho (f:=Builtin.len_) (fun _ _=>rfl) ?_) ⟨rfl,rfl⟩ (by simp[kQ]);simp[Builtin.len_,run_underlying sF,hv,goInt]
  ·rename_i s0 b0 z0 n nQ g uD;cases he;obtain⟨d,sF,e,ei,ed,rfl,_⟩:=(hT t _ uD).d;refine bW h hd (v:=.int .i64 n) (jE ho (f:=Builtin.len_) (fun _ _=>rfl) ?_) ⟨rfl,rfl⟩ (by simp[kQ]);simp[Builtin.len_,run_underlying sF,goInt]
  ·cases he
 | [],_,he=>simp at he
 |_ :: _ :: _,_,he=>simp at he
 | [_],[],he=>simp at he
 | [_],_ :: _ :: _,he=>simp at he
theorem Hn(h:gV E X w0 ρ al fr hp a w)(hd:gY E.nt o=true){b:Builtin}(hb:b=.max\/b=.min){args:Array Operand}{uC:Array TypeId}(ho:o.op=.call ⟨.builtin b,args,uC⟩)(he:oR E id o (evA E fr) hp=some (x,u)):iC P E X w0 al fr hp a w o id x u:=by
 obtain⟨args⟩:=args;unfold oR effK at he;rw[ho]at he;simp only at he
 match args,he with
 | [],he=>rcases hb with rfl |rfl <;> simp[builtinK]at he
 |y :: ys,he =>
  simp only[bLQ]at he;have hy:=(h.ev y).1;rcases hb with rfl |rfl
  ·unfold builtinK at he;split at he <;> first | (cases he;done) | (simp_all;done) |skip
   rename_i b k n rest vK gR;obtain⟨gR,vJ⟩:=List.cons.inj gR;rw[gR]at hy;have hy:a.eval y=.int k n:=hy.1;split at he <;> cases he;rename_i m hm;rw[<-vJ]at hm;have hr:=foldMM_sound (P:=P) .gtr Builtin.max2 (fun k n m w=>aCZ k n m w) h k ys n m hm;refine bW h hd (v:=.int k m) (jE ho (f:=Builtin.max_) (fun _ _=>rfl) ?_) ⟨rfl,rfl⟩ (by simp[kQ]);unfold Builtin.max_;simp only[bMM,bLQ,hy];exact hr
  ·unfold builtinK at he;split at he <;> first | (cases he;done) | (simp_all;done) |skip
   rename_i b k n rest vK gR;obtain⟨gR,vJ⟩:=List.cons.inj gR;rw[gR]at hy;have hy:a.eval y=.int k n:=hy.1;split at he <;> cases he;rename_i m hm;rw[<-vJ]at hm;have hr:=foldMM_sound (P:=P) .lss Builtin.min2 (fun k n m w=>aCY k n m w) h k ys n m hm;refine bW h hd (v:=.int k m) (jE ho (f:=Builtin.min_) (fun _ _=>rfl) ?_) ⟨rfl,rfl⟩ (by simp[kQ]);unfold Builtin.min_;simp only[bMM,bLQ,hy];exact hr
end
end AI
namespace AI
open Go Go.RowKit
section
variable {P:Program} {E:Env} {X:Nat->Prop} {w0:Old} {ρ:Nat->Nat} {al:Nat->Prop} {fr:Nat->A} {hp:Nat->Option iM} {a:Act} {w:World} {o:Oper} {id:Nat} {x:A} {u:nV}
def eM(k:IntKind)(ns:List Int):List Value:=ns.map fun n=>.int k n
theorem Dp(k:IntKind)(ns:List Int):∀v∈eM k ns,v.oneCell'=true:=by
 intro v hv;obtain⟨n,_,rfl⟩:=List.mem_map.1 hv;rfl
theorem tQ{w w':World}{row:Option Nat}(hg:w.grownBy w' row){k:Nat}(hk:k<w.heap.size)(Dq:row≠some k):w'.heap[k]?=w.heap[k]?:=hg.block k hk (fun e=>Dq e.symm)
theorem gV.Rm(h:gV E X w0 ρ al fr hp a w){i:Nat}{e:TypeId}{c c2:qU}(hb:hp i=some ⟨e,c⟩)(Ef:E.n0<=i)(tM:¬al id){g:Nat}{lW:Array Value}{w':World}(hg:w.grownBy w' (some (ρ i)))
  (hw:w'.heap[g]?=some (.cells lW e (0,0))) (yL:g=ρ i\/w.heap.size<=g) (hc:∀X',fV (XO X ρ hp) w X' w'->vC X' w' c2 lW) :
  gV E X w0 (xO ρ id g) (mB al id) fr (applyUps [(i,none),(id,some ⟨e,c2⟩)] hp) a w':=by
 have hi:=h.alh i _ hb;have Dq:i≠id:=fun e=>tM (e▸hi)
 obtain⟨Hj,arr,Ze,_⟩:=h.blk i _ hb;have Qk:∀j,applyUps [(i,none),(id,some ⟨e,c2⟩)] hp j=if j=id then some ⟨e,c2⟩else if j=i then none else hp j:=by
  intro j;simp only[applyUps]
  by_cases h1:j=id
  ·subst h1;rw[bG,if_pos rfl]
  ·rw[eF _ _ h1,if_neg h1]
   by_cases h2:j=i
   ·subst h2;rw[bG,if_pos rfl]
   ·rw[eF _ _ h2,if_neg h2]
 have hold:∀j b,applyUps [(i,none),(id,some ⟨e,c2⟩)] hp j=some b->j≠id->j≠i/\hp j=some b:=by
  intro j b hj Dq;rw[Qk,if_neg Dq]at hj;split at hj
  ·cases hj
  ·exact⟨‹_›,hj⟩
 have aJH:∀j b,hp j=some b->j≠i->ρ j≠ρ i:=fun j b hj Dq e=>Dq (h.inj j i b _ hj hb e)
 have bAS:Kept w0 w w':=⟨hg.os,hg.tape,hg.output,hg.size,fun k hk=>tQ hg (by have:=h.below.size;have:=Old.Ps hk;omega) (fun e=>by cases e;exact hk Hj.Ed),fun k hk=>tT (tQ hg (by have:=h.below.size;have:=w0.aSD k hk;omega) (fun e=>by cases e;have:=Hj.new Ef;have:=w0.aSD _ hk;omega))⟩;have hl:fV (XO X ρ hp) w (XO X (xO ρ id g) (applyUps [(i,none),(id,some ⟨e,c2⟩)] hp)) w':=by
  refine⟨hg.size,fun b bJT hx=>⟨tQ hg bJT (fun e=>hx (.inr ⟨i,_,hb,by cases e;rfl⟩)),fun ho=>?_⟩⟩;rcases ho with ho |⟨j,bl,h1,h2⟩
  ·exact hx (.inl ho)
  ·by_cases hj:j=id
   ·subst hj;rw[bG]at h2;rcases yL with yL |yL
    ·exact hx (.inr ⟨i,_,hb,by omega⟩)
    ·omega
   ·rw[eF _ _ hj]at h2;exact hx (.inr ⟨j,bl,(hold j bl h1 hj).2,h2⟩)
 refine h.change hl bAS ?_ ?_ ?_ (fun _ h=>.inl h) ?_
 ·intro j hj;have Tr:j≠id:=fun e=>tM (e▸hj)
  refine⟨eF _ _ Tr,fun b' vL=>?_⟩;obtain⟨h1,h2⟩:=hold j b' vL Tr;refine⟨b',h2,sameShape.refl _,?_⟩;unfold jM;rw[tQ hg (h.gX h2) (fun e=>aJH j b' h2 h1 (Option.some.inj e).symm)]
 ·intro j b hj
  by_cases Tr:j=id
  ·subst Tr;rw[Qk,if_pos rfl]at hj;cases hj;rw[bG];exact⟨.inl (yL.elim (fun e=>e▸Hj.new Ef) (fun e=>bMN h.below.size e)),lW,hw,hc _ hl⟩
  ·obtain⟨h1,h2⟩:=hold j b hj Tr;rw[eF _ _ Tr];exact⟨(h.blk j b h2).1,(h.blk j b h2).2.later hl (tQ hg (h.gX h2) (fun e=>aJH j b h2 h1 (Option.some.inj e).symm))⟩
 ·intro j j' b b' h1 h2 e
  by_cases hj:j=id
  ·by_cases aOK:j'=id
   ·rw[hj,aOK]
   ·subst hj;obtain⟨h3,h4⟩:=hold j' b' h2 aOK;rw[bG,eF _ _ aOK]at e;rcases yL with yL |yL
    ·exact absurd (e.symm.trans yL) (aJH j' b' h4 h3)
    ·have:=h.gX h4;omega
  ·obtain⟨h5,h6⟩:=hold j b h1 hj
   by_cases aOK:j'=id
   ·subst aOK;rw[bG,eF _ _ hj]at e;rcases yL with yL |yL
    ·exact absurd (e.trans yL) (aJH j b h6 h5)
    ·have:=h.gX h6;omega
   ·obtain⟨h3,h4⟩:=hold j' b' h2 aOK;rw[eF _ _ hj,eF _ _ aOK]at e;exact h.inj j j' b b' h6 h4 e
 ·intro j b hj
  by_cases Tr:j=id
  ·subst Tr;exact oF j
  ·exact .inl (h.alh j b (hold j b hj Tr).2)
theorem Jw{arr:Array Value}{k:IntKind}{ns:List Int}(h:arr.toList.take ns.length=eM k ns):∀(j:Nat) (n:Int),ns[j]?=some n->arr[j]?=some (Value.int k n):=by
 intro j n hn;have hj:=aR hn;have:(eM k ns)[j]?=some (.int k n):=by simp[eM,hn]
 rw[<-h,bLW hj]at this;simpa using this
theorem Jd{arr:Array Value}{k:IntKind}{ns:List Int}(h:∀(j:Nat) (n:Int),ns[j]?=some n->arr[j]?=some (Value.int k n)):arr.toList.take ns.length=eM k ns:=by
 apply List.ext_getElem?;intro j
 by_cases hj:j<ns.length
 ·rw[bLW hj];have:=h j ns[j] (bMH hj);simp only[eM,bLV,bMH hj,bME];simpa using this
 ·rw[bNN (by simp;omega),bNN (by simp[eM];omega)]
theorem nB(z:Array Value)(n:Nat):(Builtin.zeroCells z n).size=n*z.size:=by simp[Builtin.zeroCells]
theorem Hb(k:IntKind)(ns ms:List Int):eM k ns ++ eM k ms=eM k (ns ++ ms):=by simp[eM]
theorem vH{t e:TypeId}{ie:TypeInfo}{zv:Value}(ty:TypeId)(sF:P.underlying t=some (.slice e))(hi:P.info? e=some ie)(aDJ:ie.zero=some zv)(Wy:zv.cells.size=ie.size)
  {g cap n m:Nat} {arr:Array Value} {news:List Value} (Ze:w.heap[g]?=some (.cells arr e (0,0))) (yH:n<=cap) (bAM:cap<=maxLen) (bEN:cap*ie.size<=arr.size)
  (ad:Addr) (c0:Nat) (hl:news.length=m*ie.size) (Qg:∀(j:Nat) u,news[j]?=some u->w.cell? (ad.add j)=some u) (Mx:∀v∈news,v.oneCell'=true) (tL:n+m<=maxLen) (Hi:(n+m)*ie.bytes<=140737488355328) :
  ∃g' Jx lW w',(Builtin.append_ #[t,t] ty #[.slice (some ⟨g,0,none⟩) n cap,.slice (some ad) m c0]).run P w=.ok (.slice (some ⟨g',0,none⟩) (n+m) Jx) w' /\
   w.grownBy w' (some g)/\w'.heap[g']?=some (.cells lW e (0,0))/\(g'=g\/w.heap.size<=g')/\Jx*ie.size<=lW.size/\n+m<=Jx/\Jx<=maxLen/\lW.toList.take ((n+m)*ie.size)=arr.toList.take (n*ie.size) ++ news:=by
 have h1:n*ie.size<=cap*ie.size:=bNE _ yH;have h2:(arr.toList.take (n*ie.size)).length=n*ie.size:=by simp;omega
 have h3:(arr.toList.take (n*ie.size) ++ news).length=(n+m)*ie.size:=by rw[bMU,h2,hl,bML]
 by_cases hr:n+m<=cap
 ·have h4:(n+m)*ie.size<=cap*ie.size:=bNE _ hr;have h5:n*ie.size+news.length=(n+m)*ie.size:=by rw[hl,bML]
  have eZ:=run_append_room (P:=P) w t ty e ie sF hi g n cap arr Ze ad m c0 _ hl Qg Mx hr (by omega);refine⟨g,cap,_,_,eZ,⟨rfl,rfl,rfl,by simp,fun k _ hk=>setRow_other w g k _ (fun e=>hk (by rw[e]))⟩,setRow_heap w g arr _ e _ Ze,.inl rfl,?_,hr,bAM,?_⟩
  ·simp only[bNF,bMU,List.length_drop,h2,h5,Array.length_toList];omega
  ·rw[<-h3];exact bNG
 ·have eZ:=run_append_grow (P:=P) w t ty e ie zv sF hi aDJ ⟨g,0,none⟩ n cap _ h2 (fun j v hj=>by
   have Zd:=aR hj;rw[bLW (by omega)]at hj;rw[jV,bLT,cell_of_row w g j arr e (0,0) Ze];simpa using hj) ad m c0 _ hl Qg (by omega) (by unfold maxLen at tL;omega) (growslice_fits (by omega) Hi)
  have yL:=grownCap_ge w (n+m) cap e;have Na:grownCap w (n+m) cap e<=maxLen:=grownCap_le_maxLen w _ _ e tL;refine⟨w.heap.size,_,_,_,eZ,⟨rfl,rfl,rfl,by simp,fun k hk _=>tN w.drew _ hk⟩,heap_alloc_new w.drew _,.inr (bLR _),?_,yL,Na,?_⟩
  ·simp only[Array.size_append,bNF,nB,Wy,h2,hl];rw[<-bML,<-bML];exact bNE _ (by omega)
  ·simp only[Array.toList_append];rw[<-h3];exact bNG
theorem gV.drew(h:gV E X w0 ρ al fr hp a w):gV E X w0 ρ al fr hp a w.drew :=
 h.change ⟨bLR _,fun _ _ hx=>⟨rfl,hx⟩⟩ ⟨rfl,rfl,rfl,bLR _,fun _ _=>rfl,fun _ _=>rfl⟩
  (fun _ _=>⟨rfl,fun b' vL=>⟨b',vL,sameShape.refl _,rfl⟩⟩) (fun id b hb=>⟨(h.blk id b hb).1,(h.blk id b hb).2.later ⟨bLR _,fun _ _ hx=>⟨rfl,hx⟩⟩ rfl⟩) h.inj (fun _ h=>h) h.alh
theorem vC.front{Y:Nat->Prop}{cs:List S}{arr:Array Value}(h:vC Y w (.cells cs) arr):gF Y w cs (arr.toList.take cs.length) :=
 ⟨by have:=h.1;simp;omega,fun i s u hs hu=>by
  obtain⟨u',Mu,hr⟩:=h.2 i s hs;rw[bLW (aR hs)]at hu;have:u=u':=by simp at hu;rw[hu]at Mu;exact Option.some.inj Mu
  exact this▸hr⟩
theorem vC.Pt{Y:Nat->Prop}{cs:List S}{arr:Array Value}(h:gF Y w cs (arr.toList.take cs.length)):vC Y w (.cells cs) arr :=
 ⟨by have:=h.1;simp at this;omega,fun i s hs=>by
  have iN:=aR hs;obtain⟨u,hu⟩:=bA (l:=arr.toList.take cs.length) (i:=i) (by rw[<-h.1];exact iN);refine⟨u,?_,h.2 i s u hs hu⟩;rw[bLW iN]at hu;simpa using hu⟩
theorem gF.append{Y:Nat->Prop}{cs ds:List S}{vs us:List Value}(h:gF Y w cs vs)(h':gF Y w ds us):gF Y w (cs ++ ds) (vs ++ us) :=
 ⟨by simp[h.1,h'.1],fun i s u hs hu=>by
  by_cases hi:i<cs.length
  ·rw[bNC hi]at hs;rw[bNC (by rw[<-h.1];exact hi)]at hu;exact h.2 i s u hs hu
  ·rw[bND (by omega)]at hs;rw[bND (by rw[<-h.1];omega),<-h.1]at hu;exact h'.2 _ s u hs hu⟩
theorem Nj(h:gV E X w0 ρ al fr hp a w)(hd:gY E.nt o=true)(tM:∀j,j<8->¬al (id+j)){t e:TypeId}{te:TI}(sF:P.underlying t=some (.slice e))(Iz:xD P e te){y z:Operand}(ho:o.op=.call ⟨.builtin .append,#[y,z],#[t,t]⟩)
  (he:appCells E.n0 id e te (evA E fr y) (evA E fr z) hp (fun a u=>some (a,u))=some (x,u)):iC P E X w0 al fr hp a w o id x u:=by
 obtain⟨ie,hi,pO,aME,zv,aDJ,Jk⟩:=Iz.i;have Wy:zv.cells.size=ie.size:=by
  have h1:=Iz.zl;rw[<-Jk]at h1;rw[pO,<-h1];simp
 have pQ:∀n,∀i∈refs (.v (.one (.buf id n))),mB al id i:=by
  intro n i hi;simp only[refs,refsV,refsL,bMI]at hi;subst hi;exact oF i
 have hy:=(h.ev y).1;have hz:=(h.ev z).1;unfold appCells at he;split at he
 ·rename_i j m bAB;rw[bAB]at hz;obtain⟨aVL,aYS,_,_,_⟩:=hz;split at he
  ·rename_i ej new bJU;obtain⟨_,Nv,bJD,bAO⟩:=h.blk j _ bJU;split at he
   ·rename_i hm;obtain⟨aAS,aTW⟩:=hm;have aOO:=bAO.front;have aZQ:(Nv.toList.take new.length).length=m*ie.size:=by rw[<-aOO.1,aTW,pO]
    have Qg:∀(k:Nat) v,(Nv.toList.take new.length)[k]?=some v->w.cell? ((⟨ρ j,0,none⟩:Addr).add k)=some v:=by
     intro k v hk;have aOJ:=aR hk;rw[bLW (by rw[<-aOO.1]at aOJ;exact aOJ)]at hk;rw[jV,bLT,cell_of_row w (ρ j) k Nv _ (0,0) bJD];simpa using hk
    have Mx:∀v∈Nv.toList.take new.length,v.oneCell'=true:=by
     intro v hv;obtain⟨k,hk⟩:=bMP hv;obtain⟨s,hs⟩:=bA (l:=new) (i:=k) (by rw[aOO.1];exact aR hk);exact(aOO.2 k s v hs hk).one
    split at he
    ·
     rename_i i n aOP;rw[aOP]at hy;obtain⟨cap,hv,yH,_,aMD⟩:=hy;split at he
     ·rename_i e' cs bAR;split at he
      ·rename_i hk;obtain⟨rfl,Ef,hn,aAW,vK,aJP⟩:=hk;obtain⟨e1,e2⟩:=Prod.mk.inj (Option.some.inj he);rw[<-e1,<-e2];obtain⟨sz,h5,h6,h7⟩:=aMD _ cs bAR rfl;have bHQ:sz=ie.size:=by rw[pO];exact Nat.eq_of_mul_eq_mul_left hn (by rw[<-h5,aAW])
       subst bHQ;obtain⟨_,arr,Ze,bJR⟩:=h.blk i _ bAR;rw[jA Ze]at h6;have aWT:=bJR.front;obtain⟨g',Jx,lW,w',eZ,hg,aUM,aON,nU,Zc,Na,aWL⟩:=vH (P:=P) o.type sF hi aDJ Wy Ze yH h7 h6 ⟨ρ j,0,none⟩ aVL aZQ Qg Mx (by unfold maxLen;omega) (by rw[aME];omega);have hlen:(cs ++ new).length=(n+m)*ie.size:=by rw[bMU,aAW,aTW,pO,bML]
       have h1:=h.Rm (id:=id) (c2:=.cells (cs ++ new)) bAR Ef (tM 0 (by omega)) hg aUM aON (fun X' hl=>vC.Pt (by
        rw[hlen,aWL];refine gF.append (gF.later hl ?_) (gF.later hl aOO);rw[h5]at aWT;exact aWT))
       refine⟨_,.slice (some ⟨g',0,none⟩) (n+m) Jx,w',.inl (jE ho (f:=Builtin.append_) (fun _ _=>rfl) ?_),h1.pure hd (x:=.v (.one (.buf id (n+m)))) ?_ (pQ _)⟩
       ·simp only[bMM,bLQ,bMJ,hv,aYS];exact eZ
       ·refine⟨Jx,by rw[bG],Zc,fun blk k1 Sa Zh Eg=>?_,fun blk bLH Zh Eg=>?_⟩
        ·simp only[applyUps]at Zh;rw[bG]at Zh;cases Zh;cases Eg
        ·simp only[applyUps]at Zh;rw[bG]at Zh;cases Zh;cases Eg;exact⟨ie.size,hlen,by rw[bG,jA aUM];exact nU,Na⟩
      ·cases he
     ·cases he
    ·
     rename_i aOP;rw[aOP]at hy;have hv:a.eval y=.slice none 0 0:=hy.1;split at he
     ·rename_i hk;obtain⟨vK,aJP⟩:=hk;obtain⟨e1,e2⟩:=Prod.mk.inj (Option.some.inj he);rw[<-e1,<-e2];have eZ:=run_append_nil (P:=P) w t o.type e ie zv sF hi aDJ ⟨ρ j,0,none⟩ m aVL _ aZQ Qg aAS (by omega) (by rw[aME];omega);have yL:=grownCap_ge w m 0 e;have Na:grownCap w m 0 e<=maxLen:=grownCap_le_maxLen w _ _ e (by unfold maxLen;omega);have aTF:((Nv.toList.take new.length).toArray ++ Builtin.zeroCells zv.cells (grownCap w m 0 e-m)).size=grownCap w m 0 e*ie.size:=by
       simp only[Array.size_append,bNF,nB,Wy,aZQ];rw[<-bML];congr 1;omega
      have h1:=h.drew.alloc (id:=id) (al':=mB al id) (tM 0 (by omega)) (fun _ h=>.inl h) (oF id) e (.cells new) ((Nv.toList.take new.length).toArray ++ Builtin.zeroCells zv.cells (grownCap w m 0 e-m)) (by
       refine vC.Pt ?_;have e3:((Nv.toList.take new.length).toArray ++ Builtin.zeroCells zv.cells (grownCap w m 0 e-m)).toList.take new.length=Nv.toList.take new.length:=by
        have hq:=aOO.1;generalize Nv.toList.take new.length=L at hq ⊢;rw[Array.toList_append,hq];exact bNG
       rw[e3];exact gF.later ⟨bLR _,fun _ _ hx=>⟨rfl,hx⟩⟩ aOO)
      refine⟨_,.slice (some ⟨w.heap.size,0,none⟩) m (grownCap w m 0 e),_,.inl (jE ho (f:=Builtin.append_) (fun _ _=>rfl) ?_),h1.pure hd (x:=.v (.one (.buf id m))) ?_ (pQ _)⟩
      ·simp only[bMM,bLQ,bMJ,hv,aYS];exact eZ
      ·refine⟨_,by rw[bG];rfl,yL,fun blk k1 Sa Zh Eg=>?_,fun blk bLH Zh Eg=>?_⟩
       ·rw[bG]at Zh;cases Zh;cases Eg
       ·rw[bG]at Zh;cases Zh;cases Eg;refine⟨ie.size,by rw[aTW,pO],?_,Na⟩;rw[bG,jA (tP w.drew _),aTF];exact bLR _
     ·cases he
    ·cases he
   ·cases he
  ·cases he
 ·cases he
theorem Ua(h:gV E X w0 ρ al fr hp a w)(hd:gY E.nt o=true)(hT:mH P E.T)(tM:∀j,j<8->¬al (id+j)){args:Array Operand}{uC:Array TypeId}(ho:o.op=.call ⟨.builtin .append,args,uC⟩)(he:oR E id o (evA E fr) hp=some (x,u)):iC P E X w0 al fr hp a w o id x u:=by
 obtain⟨args⟩:=args;obtain⟨uC⟩:=uC;unfold oR effK at he;rw[ho]at he;simp only[builtinK]at he
 match args,uC,he with
 | [y,z],[t,t'],he =>
  simp only[bLQ,bMJ]at he;split at he
  ·rename_i bHP;subst bHP;split at he
   ·rename_i s0 b0 z0 e uD;obtain⟨d,sF,zP⟩:=(hT t _ uD).d;have zP:d=.slice e:=zP;subst zP;split at he
    ·rename_i bytes zero k Iz;have Hd:=hT e _ Iz;obtain⟨ie,hi,pO,aME,zv,aDJ,Jk⟩:=Hd.i;have pO:ie.size=1:=pO;have aME:ie.bytes=bytes:=aME;have Wy:zv.cells.size=1:=by
      have h1:zero.length=1:=Hd.zl;have h2:zv.cells.toList=zero:=Jk;rw[<-h2]at h1;simpa using h1
     have pQ:∀i∈refs (.v (.one (.buf id 0))),mB al id i:=by
      intro i hi;simp only[refs,refsV,refsL,bMI]at hi;subst hi;exact oF i
     split at he
     ·rename_i hb8;have hy:=(h.ev y).1;split at he
      ·
       rename_i i n ms gR aJI;rw[gR]at hy;obtain⟨cap,hv,yH,hc,_⟩:=hy;split at he
       ·rename_i e' k' ns hb;cases Cn:bMC i E.n0 with
        |true=>rw[Cn]at he;cases he
        |false =>
        rw[Cn]at he;simp only[cond_false]at he;have Cn:E.n0<=i:=by
         have:¬i<E.n0:=fun h=>by
          have h2:bMC i E.n0=true:=by rw[Nat.blt_eq];exact h
          rw[h2]at Cn;cases Cn
         omega
        split at he
        ·rename_i bJM;obtain⟨rfl,rfl⟩:=bJM;split at he
         ·rename_i tL;obtain⟨oY,tL⟩:=tL;obtain⟨e1,e2⟩:=Prod.mk.inj (Option.some.inj he);rw[<-e1,<-e2];obtain⟨hn,bAM,bEN⟩:=hc _ k ns hb rfl;subst hn;obtain⟨Hj,arr,Ze,aAW,bAP⟩:=h.blk i _ hb;rw[jA Ze]at bEN;obtain⟨A0,c0,Yz,iD⟩:=qM h aJI;obtain⟨ad,hA,_⟩:=iD 0 ms[0] (bMH oY);subst hA;obtain⟨g',Jx,lW,w',eZ,hg,aUM,aON,nU,Zc,Na,aWL⟩:=vH (P:=P) (m:=ms.length) (news:=eM k ms) o.type sF hi aDJ (by omega) Ze yH bAM (by rw[pO];omega) ad c0 (by simp[eM,pO]) (fun j v hj=>by
           simp only[eM,bLV,bMV]at hj;obtain⟨m,hm,rfl⟩:=hj;obtain⟨bFM,e1,e2⟩:=iD j m hm;cases e1;exact e2) (Dp k ms) (by unfold maxLen;unfold room at tL;omega) (by
           have:(ns.length+ms.length)*ie.bytes<=(ns.length+ms.length)*8:=bOF _ (by omega);unfold room at tL;omega)
          rw[pO,bMB]at nU;rw[pO,bMB,bMB,Jd bAP,Hb,<-bMU]at aWL;have h1:=h.Rm (id:=id) (c2:=.ints k (ns ++ ms)) hb Cn (tM 0 (by omega)) hg aUM aON (fun _ _=>⟨by simp;omega,Jw aWL⟩);refine⟨_,.slice (some ⟨g',0,none⟩) (ns.length+ms.length) Jx,w',.inl (jE ho (f:=Builtin.append_) (fun _ _=>rfl) ?_),h1.pure hd (x:=.v (.one (.buf id (ns.length+ms.length)))) ?_ pQ⟩
          ·simp only[bMM,bLQ,bMJ,hv,Yz];exact eZ
          ·refine⟨Jx,by rw[bG],Zc,fun blk k1 Sa vK Eg=>?_,fun blk cs vK Eg=>by simp only[applyUps]at vK;rw[bG]at vK;cases vK;cases Eg⟩;simp only[applyUps]at vK;rw[bG]at vK;cases vK;cases Eg;refine⟨by simp,Na,?_⟩;rw[bG,jA aUM];exact nU
         ·cases he
        ·cases he
       ·cases he
      ·
       rename_i ms gR aJI;rw[gR]at hy;have hv:a.eval y=.slice none 0 0:=hy.1;split at he
       ·rename_i tL;obtain⟨oY,tL⟩:=tL;obtain⟨e1,e2⟩:=Prod.mk.inj (Option.some.inj he);rw[<-e1,<-e2];obtain⟨A0,c0,Yz,iD⟩:=qM h aJI;obtain⟨ad,hA,_⟩:=iD 0 ms[0] (bMH oY);subst hA;have hl:(eM k ms).length=ms.length*ie.size:=by simp[eM,pO]
        have Hi:ms.length*ie.bytes<=281474976710656:=by
         have:ms.length*ie.bytes<=ms.length*8:=bOF _ (by omega);unfold room at tL;omega
        have eZ:=run_append_nil (P:=P) w t o.type e ie zv sF hi aDJ ad ms.length c0 (eM k ms) hl (fun j v hj=>by
         simp only[eM,bLV,bMV]at hj;obtain⟨m,hm,rfl⟩:=hj;obtain⟨bFM,e1,e2⟩:=iD j m hm;cases e1;exact e2) oY (by unfold room at tL;omega) Hi
        have yL:=grownCap_ge w ms.length 0 e;have Na:grownCap w ms.length 0 e<=maxLen:=grownCap_le_maxLen w _ _ e (by unfold maxLen;unfold room at tL;omega);have h1:=h.drew.alloc (id:=id) (al':=mB al id) (tM 0 (by omega)) (fun _ h=>.inl h) (oF id) e (.ints k ms) ((eM k ms).toArray ++ Builtin.zeroCells zv.cells (grownCap w ms.length 0 e-ms.length)) (by
         refine⟨by simp[eM,nB,Wy,bMB],fun j n hn=>?_⟩;have hj:=aR hn;rw[Array.getElem?_append_left (by simp[eM];omega)];simp[eM,hn])
        refine⟨_,.slice (some ⟨w.heap.size,0,none⟩) ms.length (grownCap w ms.length 0 e),_,.inl (jE ho (f:=Builtin.append_) (fun _ _=>rfl) ?_),h1.pure hd (x:=.v (.one (.buf id ms.length))) ?_ pQ⟩
        ·simp only[bMM,bLQ,bMJ,hv,Yz];exact eZ
        ·refine⟨_,by rw[bG];rfl,yL,fun blk k1 Sa vK Eg=>?_,fun blk cs vK Eg=>by rw[bG]at vK;cases vK;cases Eg⟩;rw[bG]at vK;cases vK;cases Eg;refine⟨rfl,Na,?_⟩;rw[bG,jA (tP w.drew _)];simp only[Array.size_append,bNF,nB,Wy,bMB];simp[eM];omega
       ·cases he
      ·cases he
     ·cases he
    ·rename_i te _ Iz;exact Nj h hd tM sF (hT e _ Iz) ho he
    ·cases he
   ·cases he
  ·cases he
 | [],_,he=>simp at he
 | [_],_,he=>simp at he
 |_ :: _ :: _ :: _,_,he=>simp at he
 | [_,_],[],he=>simp at he
 | [_,_],[_],he=>simp at he
 | [_,_],_ :: _ :: _ :: _,he=>simp at he
theorem Oz{α:Type}(f:Nat->α)(i:Nat)(b:α)(h:f i=b):xO f i b=f:=by
 funext j
 by_cases hj:j=i
 ·subst hj;rw[bG,h]
 ·rw[eF _ _ hj]
theorem Ky(h:gV E X w0 ρ al fr hp a w){t t' e:TypeId}{bytes:Nat}{zero:List Value}{k:IntKind}(ty:TypeId)(sF:P.underlying t=some (.slice e))(Iz:xD P e ⟨1,bytes,zero,.int k⟩)
  {i off n dcap:Nat} {e':TypeId} {ns ms:List Int} (hb:hp i=some ⟨e',.ints k ns⟩) (hle:off+n<=ns.length) (Ad:Option Addr) (hA:0<n->Ad=some ⟨ρ i,off,none⟩)
  (As:Option Addr) (sc:Nat) (iD:∀(j:Nat) (m:Int),ms[j]?=some m->∃ad,As=some ad/\w.cell? (ad.add j)=some (.int k m)) :
  ∃w',(Builtin.copy_ #[t,t'] ty #[.slice Ad n dcap,.slice As ms.length sc]).run P w=.ok (.int .i64 (min ms.length n:Nat)) w' /\
   gV E X w0 ρ al fr (xO hp i (some ⟨e',.ints k (ns.take off ++ (ms.take n ++ ns.drop (off+min ms.length n)))⟩)) a w':=by
 obtain⟨ie,hi,pO,_⟩:=Iz.i;have pO:ie.size=1:=pO;have Se:(P.info? e).map (·.size)=some 1:=by simp[hi,pO]
 obtain⟨_,arr,Ze,aAW,bAP⟩:=h.blk i _ hb
 by_cases h0:min ms.length n=0
 ·refine⟨w,?_,?_⟩
  ·have:=run_copy_none (P:=P) w t t' ty e Ad As n dcap ms.length sc sF Se h0;rw[this,h0];rfl
  ·have hc:ns.take off ++ (ms.take n ++ ns.drop (off+min ms.length n))=ns:=by
    have:ms.take n=[]:=by
     apply bOG;rw[bOH];omega
    rw[this,h0];simp
   rw[hc,Oz _ _ _ hb];exact h
 ·have hn:0<n:=by omega
  have hm:0<ms.length:=by omega
  have hA:=hA hn;subst hA;obtain⟨ad,rfl,_⟩:=iD 0 ms[0] (bMH hm);have hlen:(eM k (ms.take n)).length=min ms.length n:=by rw[eM,bNK,bOH];omega
  have eZ:=run_copy_row (P:=P) w t t' ty e (ρ i) off n dcap ad ms.length sc arr e' (eM k (ms.take n)) sF Se Ze hlen (fun j v hj=>by
   simp only[eM,bLV,bMV]at hj;obtain⟨m,hm,rfl⟩:=hj;have Tr:j<n:=by have:=aR hm;simp at this;omega
   rw[bLW Tr]at hm;obtain⟨bFM,e1,e2⟩:=iD j m hm;cases e1;exact e2) (by rw[hlen];have:ns.length<=arr.size:=aAW;omega) (Dp k _)
  rw[hlen]at eZ;refine⟨_,eZ,?_⟩;have aAW:ns.length<=arr.size:=aAW;refine h.setRow hb _ _ ⟨fun k1 Sa e1=>?_,fun Hr e1=>by cases e1⟩ ?_ ?_
  ·cases e1;exact⟨k,ns,rfl,by simp;omega⟩
  ·rw[jA Ze];simp[hlen];omega
  ·refine⟨by simp[hlen];omega,fun j m hj=>?_⟩;have iN:(ms.take n).length=min ms.length n:=by simp;omega
   rw[<-iN,List.nY ns (ms.take n) off j (by rw[iN];omega)]at hj;have e1:(arr.toList.take off ++ eM k (ms.take n) ++ arr.toList.drop (off+min ms.length n)).toArray[j]?=(arr.toList.take off ++ (eM k (ms.take n) ++ arr.toList.drop (off+(eM k (ms.take n)).length)))[j]?:=by
    rw[hlen];simp[bNM]
   rw[e1,List.nY _ _ _ _ (by rw[hlen];simp;omega),hlen];rw[iN]at hj
   by_cases Jc:off<=j/\j<off+min ms.length n
   ·rw[if_pos Jc]at hj ⊢;simp only[eM,bLV,hj,bME]
   ·rw[if_neg Jc]at hj ⊢;simpa using bAP j m hj
theorem aFC(h:gV E X w0 ρ al fr hp a w)(hd:gY E.nt o=true)(hT:mH P E.T){args:Array Operand}{uC:Array TypeId}(ho:o.op=.call ⟨.builtin .copy,args,uC⟩)(he:oR E id o (evA E fr) hp=some (x,u)):iC P E X w0 al fr hp a w o id x u:=by
 obtain⟨args⟩:=args;obtain⟨uC⟩:=uC;unfold oR effK at he;rw[ho]at he;simp only[builtinK]at he
 match args,uC,he with
 | [y,z],[t,t'],he =>
  simp only[bLQ,bMJ]at he;split at he
  ·rename_i s0 b0 z0 e uD;obtain⟨d,sF,zP⟩:=(hT t _ uD).d;have zP:d=.slice e:=zP;subst zP;split at he
   ·rename_i bytes zero k Iz;have Hd:=hT e _ Iz;have hy:=(h.ev y).1;have fin:∀{i:Nat} {e':TypeId} {k':IntKind} {ns cs:List Int} {n:Nat},(∃w',(Builtin.copy_ #[t,t'] o.type (#[y,z].map a.eval)).run P w=.ok (.int .i64 n) w'/\gV E X w0 ρ al fr (xO hp i (some ⟨e',.ints k cs⟩)) a w') ->
      iC P E X w0 al fr hp a w o id (yF (.int .i64 n)) [(i,some ⟨e',.ints k cs⟩)]:=by
     intro i e' k' ns cs n hw;obtain⟨w',h1,h2⟩:=hw;exact⟨ρ,_,w',.inl (jE ho (f:=Builtin.copy_) (fun _ _=>rfl) h1),(h2.more id).pure hd ⟨rfl,rfl⟩ (by simp[kQ])⟩
    split at he
    ·rename_i i n ms gR aJI;rw[gR]at hy;obtain⟨cap,hv,yH,hc,_⟩:=hy;split at he
     ·rename_i e' k' ns hb;split at he
      ·rename_i hk;subst hk;obtain⟨e1,e2⟩:=Prod.mk.inj (Option.some.inj he);rw[<-e1,<-e2];obtain⟨hn,_⟩:=hc _ k ns hb rfl;obtain⟨A0,c0,Yz,iD⟩:=qM h aJI;have:=Ky (P:=P) h (t':=t') (off:=0) (n:=n) (dcap:=cap) o.type sF Hd hb (by omega) (some ⟨ρ i,0,none⟩) (fun _=>rfl) A0 c0 iD;simp only[List.take_zero,List.nil_append,bLT]at this;refine fin (k':=k) (ns:=ns) ?_;simp only[bMM,bLQ,bMJ,hv,Yz];exact this
      ·cases he
     ·cases he
    ·rename_i i off n ms gR aJI;rw[gR]at hy;obtain⟨Ad,cap,hv,yH,hA,hc⟩:=tB hy;split at he
     ·rename_i e' k' ns hb;split at he
      ·rename_i hk;obtain⟨rfl,hle⟩:=hk;obtain⟨e1,e2⟩:=Prod.mk.inj (Option.some.inj he);rw[<-e1,<-e2];obtain⟨A0,c0,Yz,iD⟩:=qM h aJI;have:=Ky (P:=P) h (t':=t') (off:=off) (n:=n) (dcap:=cap) o.type sF Hd hb hle Ad hA A0 c0 iD;refine fin (k':=k) (ns:=ns) ?_;simp only[bMM,bLQ,bMJ,hv,Yz];exact this
      ·cases he
     ·cases he
    ·cases he
   ·cases he
  ·cases he
 | [],_,he=>simp at he
 | [_],_,he=>simp at he
 |_ :: _ :: _ :: _,_,he=>simp at he
 | [_,_],[],he=>simp at he
 | [_,_],[_],he=>simp at he
 | [_,_],_ :: _ :: _ :: _,he=>simp at he
def lL(Y:Nat->Prop)(w:World):D->Value->Prop
 | .s x,v=>mZ Y w x v
 | .rows sz n f,v=>∃A c,v=.slice A n c/\n<=c/\∀i,i<n->(f i).length=sz/\∃b off,A=some ⟨b,off,none⟩/\qV Y w b (off+i*sz) (f i)
 | .agg cs,v=>∃arr,v=.agg arr/\gF Y w cs arr.toList
 | .own _ k ns,v=>mZ Y w (.ints k ns) v
 | .io _ _ _ _ _,_=>False
 | .back _ _ _,_=>False
def Lj(base:Nat)(w:World)(g:Nat)(e:TypeId)(k:IntKind)(ns:List Int)(v:Value):Prop :=
 ∃arr cap,v=.slice (some ⟨g,0,none⟩) ns.length cap/\base<=g/\w.heap[g]?=some (.cells arr e (0,0))/\ns.length<=cap/\cap<=arr.size/\cap<=maxLen/\∀(j:Nat) (n:Int),ns[j]?=some n->arr[j]?=some (Value.int k n)
def iU:D->Bool
 | .own _ _ _=>true
 |_=>false
def Uy(Y:Nat->Prop)(base:Nat)(w:World)(rs:List D)(vs:List Value):Prop :=
 ∃g:Nat->Nat,rs.length=vs.length/\(∀(i j:Nat) (d d':D),rs[i]?=some d->rs[j]?=some d'->iU d=true->iU d'=true->g i=g j->i=j) /\
  ∀(i:Nat) (d:D) (v:Value),rs[i]?=some d->vs[i]?=some v->match d with
   | .own e k ns=>Lj base w (g i) e k ns v
   |d=>lL (fun b=>Y b\/∃(j:Nat) (d':D),rs[j]?=some d'/\iU d'=true/\g j=b) w d v
def resV:List Value->Value
 | [v]=>v
 |vs=>.tuple vs.toArray
def Contract(P:Program)(glob:Nat->Option (IntKind×List Int))(f:FuncId)(ds rs:List D):Prop :=
 ∀(Y:Nat->Prop) (w:World) (vs:List Value),(∀b,Y b->b<w.heap.size)->GlobOk glob Y w->ds.length=vs.length ->
  (∀(i:Nat) (d:D) (v:Value),ds[i]?=some d->vs[i]?=some v->lL Y w d v) ->
  Calls P f vs.toArray w fun e w'=>∃vF,e=.returned (resV vF)/\Below w.heap.size w w'/\Uy Y w.heap.size w' rs vF
def Uu(w:World)(g len off n:Nat)(v:Value):Prop :=
 ∃o' cap,v=.slice (some ⟨g,o',none⟩) n cap/\n<=cap/\(0<n->o'=off)/\(off=0->o'=0)/\off+n<=len/\cap<=maxLen/\cap<=jM w g
def aQJ(w:World)(g:Nat)(e:TypeId)(k:IntKind)(ns:List Int)(off n:Nat)(v:Value):Prop :=
 Uu w g ns.length off n v/\Bg (fun _=>False) w g ⟨e,.ints k ns⟩
def Am:D->Bool
 | .io _ _ _ _ _=>true
 |_=>false
def Ye(Y:Nat->Prop)(w:World)(g:Nat->Nat)(i:Nat)(v:Value):D->Prop
 | .io e k ns off n=>Y (g i)/\aQJ w (g i) e k ns off n v
 |d=>lL Y w d v
def Om(w:World)(b:Nat):D->Prop
 | .io e k ns _ _=>Bg (fun _=>False) w b ⟨e,.ints k ns⟩
 |_=>False
structure zL(M:Nat->Prop)(w w':World):Prop where
 os:w'.os=w.os
 tape:w'.tape=w.tape
 output:w'.output=w.output
 size:w.heap.size<=w'.heap.size
 block:∀b,b<w.heap.size->¬M b->w'.heap[b]?=w.heap[b]?
 room:∀b,M b->jM w' b=jM w b
def zE(ps:List Nat)(g:Nat->Nat)(b:Nat):Prop:=∃i,i∈ps/\g i=b
def aMP(ps:List Nat)(ds js:List D):Prop :=
 ∀(j i:Nat),ps[j]?=some i->∃e k ns off n e' k' lC,ds[i]?=some (.io e k ns off n)/\js[j]?=some (.io e' k' lC 0 0)/\lC.length=ns.length
def bCE(Y:Nat->Prop)(base:Nat)(w:World)(ps:List Nat)(js:List D)(g0:Nat->Nat)(gi:Nat)(v:Value):D->Prop
 | .own e k ns=>Lj base w gi e k ns v
 | .back p off n=>∃(j:Nat) (e:TypeId) (k:IntKind) (ns:List Int),ps[j]?=some p/\js[j]?=some (.io e k ns 0 0)/\Uu w (g0 p) ns.length off n v
 |d=>lL Y w d v
def Oe(Y:Nat->Prop)(base:Nat)(w:World)(ps:List Nat)(js:List D)(g0:Nat->Nat)(rs:List D)(vs:List Value):Prop :=
 ∃g:Nat->Nat,rs.length=vs.length/\(∀(i j:Nat) (d d':D),rs[i]?=some d->rs[j]?=some d'->iU d=true->iU d'=true->g i=g j->i=j) /\
  ∀(i:Nat) (d:D) (v:Value),rs[i]?=some d->vs[i]?=some v->bCE (fun b=>Y b\/∃(j:Nat) (d':D),rs[j]?=some d'/\iU d'=true/\g j=b) base w ps js g0 (g i) v d
structure mS(P:Program)(glob:Nat->Option (IntKind×List Int))(f:FuncId)(ps:List Nat)(ds rs js:List D):Prop where
 len:js.length=ps.length
 io:aMP ps ds js
 run:∀(Y:Nat->Prop) (w:World) (vs:List Value) (g:Nat->Nat),(∀b,Y b->b<w.heap.size)->GlobOk glob Y w->ds.length=vs.length ->
  (∀(i:Nat) (d:D) (v:Value),ds[i]?=some d->vs[i]?=some v->Ye Y w g i v d)->(∀i j,i∈ps->j∈ps->g i=g j->i=j) ->
  Calls P f vs.toArray w fun e w'=>∃vF,e=.returned (resV vF)/\zL (zE ps g) w w'/\Oe Y w.heap.size w' ps js g rs vF/\∀(j i:Nat) (d:D),ps[j]?=some i->js[j]?=some d->Om w' (g i) d
def sQ(P:Program)(f:FuncId):Prop:=∀(vs:Array Value) (w:World),(callFunc f vs).run P w=.ok (.enter f vs) w
structure iS(P:Program)(E:Env):Prop where
 c:∀f ds g rs,E.ioF f=[]->E.C f ds=some (g,rs)->g->Contract P E.glob f ds rs/\sQ P f
 i:∀f p ps ds g rs,E.ioF f=p :: ps->E.C f ds=some (g,rs)->g->∃Bw js,rs=Bw ++ js/\mS P E.glob f (p :: ps) ds Bw js/\sQ P f
 x:∀f vs g rs,E.ext f vs=some (g,rs)->g->(∀v∈rs,v.oneCell'=true)/\∀w,(callFunc f vs.toArray).run P w=.ok (.value (resV rs)) w
theorem lL.later{Y Y':Nat->Prop}{w w':World}(h:fV Y w Y' w'){d:D}{v:Value}(r:lL Y w d v):lL Y' w' d v:=by
 cases d with
 |s x=>exact mZ.later h r
 |rows sz n f =>
  obtain⟨A0,c,hv,hle,hc⟩:=r;refine⟨A0,c,hv,hle,fun i hi=>?_⟩;obtain⟨hl,b,off,hA,Qn⟩:=hc i hi;exact⟨hl,b,off,hA,Qn.later h⟩
 |agg cs=>obtain⟨arr,hv,hr⟩:=r;exact⟨arr,hv,hr.later h⟩
 |own e k ns=>exact mZ.later (s:=.ints k ns) h r
 |io=>exact r
 |back=>exact r
theorem mZ.any{Y Y':Nat->Prop}{w w':World}{x:S}{v:Value}(hs:Eu x=false)(r:mZ Y w x v):mZ Y' w' x v:=by
 cases x with
 |sc u=>exact r
 |bot=>exact r
 |ints k ns=>cases hs
theorem lL.any{Y Y':Nat->Prop}{w w':World}{d:D}{v:Value}(hs:shares d=false)(ho:iU d=false)(r:lL Y w d v):lL Y' w' d v:=by
 cases d with
 |s x=>exact mZ.any hs r
 |rows sz n f=>cases hs
 |agg cs =>
  obtain⟨arr,hv,hl,hr⟩:=r;refine⟨arr,hv,hl,fun i s u h1 h2=>(hr i s u h1 h2).any ?_⟩;have:=List.any_eq_false.1 (show cs.any Eu=false from hs) s (bMA h1);simpa using this
 |own e k ns=>cases ho
 |io=>exact r
 |back=>exact r
def Uo(args:List A):nV:=(args.flatMap refs).map fun i=>(i,none)
theorem Rj(args:List A):Cons (Uo args):=by
 intro p hp;obtain⟨i,_,rfl⟩:=List.mem_map.1 hp;rfl
theorem Br(h:gV E X w0 ρ al fr hp a w){u:nV}(hu:Cons u){y:A}{v:Value}(hr:vD ρ hp (XO X ρ hp) w y v)(Jc:∀i∈refs y,(i,none)∈u){d:D}(hd:toD hp y=some d):lL (XO X ρ (applyUps u hp)) w d v:=by
 have hl:fV (XO X ρ hp) w (XO X ρ (applyUps u hp)) w:=fV.cons hu;unfold toD at hd;split at hd
 ·cases hd;obtain⟨arr,hv,hs⟩:=hr;exact⟨arr,hv,hs.later hl⟩
 ·cases hd;exact mZ.later hl hr
 ·cases hd;exact lL.later hl (d:=.rows _ _ _) hr
 ·rename_i i n;split at hd
  ·rename_i e k ns hb;cases hd;obtain⟨cap,hv,yH,hc,_⟩:=hr;obtain⟨hn,_⟩:=hc _ k ns hb rfl;subst hn;refine⟨_,cap,hv,yH,fun j m hj=>⟨ρ i,0,rfl,h.gX hb,h.Qp hb hu (Jc i (by simp[refs,refsV,refsL])),?_⟩⟩;rw[bLT];exact h.uV hb hj
  ·rename_i e cs hb;split at hd
   ·rename_i hlen;cases hd;obtain⟨cap,hv,yH,_⟩:=hr;refine⟨_,cap,hv,yH,fun j hj=>?_⟩;have hle:(j+1)*(cs.length/n)<=n*(cs.length/n):=bNE _ hj;rw[bML,Nat.one_mul]at hle;refine⟨by simp;omega,ρ i,0,rfl,fun m s hm=>?_⟩;have aZN:m<cs.length/n:=by
     have:=aR hm;simp at this;omega
    rw[bLW aZN,bMD]at hm;obtain⟨_,hB⟩:=h.blk i _ hb;obtain⟨arr,aWZ,aUX⟩:=hB;obtain⟨aLX,Qn⟩:=aUX;obtain⟨u0,aQR,bHU⟩:=Qn _ _ hm;refine⟨h.gX hb,h.Qp hb hu (Jc i (by simp[refs,refsV,refsL])),u0,?_,mZ.later hl bHU⟩;rw[cell_of_row w (ρ i) _ arr e (0,0) aWZ,bLT];exact aQR
   ·cases hd
  ·cases hd
 ·rename_i i off n;split at hd
  ·rename_i e k ns hb;cases hd;obtain⟨A0,cap,hv,yH,hA,hc⟩:=tB hr;have hle:=hc _ k ns hb rfl;have hlen:((ns.drop off).take n).length=n:=by simp;omega
   refine⟨A0,cap,by rw[hlen];exact hv,by rw[hlen];exact yH,fun j m hj=>?_⟩;have Tr:j<n:=by have:=aR hj;omega
   refine⟨ρ i,off,hA (by omega),h.gX hb,h.Qp hb hu (Jc i (by simp[refs,refsV,refsL])),?_⟩;rw[bLW Tr,bMD]at hj;exact h.uV hb hj
  ·cases hd
 ·cases hd
theorem gV.called(h:gV E X w0 ρ al fr hp a w){w':World}(hB:Below w.heap.size w w'){ρ':Nat->Nat}{hp':Nat->Option iM}{al':Nat->Prop}(oZ:∀i,al i->al' i)
  (hold:∀i,al i->ρ' i=ρ i/\hp' i=hp i) (pQ:∀i b,hp' i=some b->¬al i->al' i/\w.heap.size<=ρ' i/\∀Y,Bg Y w' (ρ' i) b)
  (wR:∀i j b c,hp' i=some b->hp' j=some c->¬al i->¬al j->ρ' i=ρ' j->i=j):gV E X w0 ρ' al' fr hp' a w'/\fV (XO X ρ hp) w (XO X ρ' hp') w':=by
 have Tt:Kept w0 w w':=⟨hB.os,hB.tape,hB.output,hB.size,fun b hb=>hB.block b (by have:=h.below.size;have:=Old.Ps hb;omega),fun b hb=>tT (hB.block b (by have:=h.below.size;have:=w0.aSD b hb;omega))⟩;have hl:fV (XO X ρ hp) w (XO X ρ' hp') w':=by
  refine⟨hB.size,fun b hb hx=>⟨hB.block b hb,fun ho=>?_⟩⟩;rcases ho with ho |⟨i,bl,h1,h2⟩
  ·exact hx (.inl ho)
  ·by_cases hi:al i
   ·obtain⟨e1,e2⟩:=hold i hi;exact hx (.inr ⟨i,bl,by rw[<-e2];exact h1,by rw[<-e1];exact h2⟩)
   ·have:=(pQ i bl h1 hi).2.1;omega
 refine⟨h.change hl Tt ?_ ?_ ?_ oZ ?_,hl⟩
 ·intro i hi;obtain⟨e1,e2⟩:=hold i hi;refine⟨e1,fun b' vL=>?_⟩;rw[e2]at vL;refine⟨b',vL,sameShape.refl _,?_⟩;unfold jM;rw[hB.block _ (h.gX vL)]
 ·intro i b hb
  by_cases hi:al i
  ·obtain⟨e1,e2⟩:=hold i hi;rw[e2]at hb;rw[e1];exact⟨(h.blk i b hb).1,(h.blk i b hb).2.later hl (hB.block _ (h.gX hb))⟩
  ·obtain⟨_,h2,h3⟩:=pQ i b hb hi;exact⟨.inl (bMN h.below.size h2),h3 _⟩
 ·intro i j b c hb hc e
  by_cases hi:al i
  ·obtain⟨e1,e2⟩:=hold i hi
   by_cases hj:al j
   ·obtain⟨e3,e4⟩:=hold j hj;rw[e2]at hb;rw[e4]at hc;rw[e1,e3]at e;exact h.inj i j b c hb hc e
   ·rw[e2]at hb;have:=h.gX hb;have:=(pQ j c hc hj).2.1;omega
  ·by_cases hj:al j
   ·obtain⟨e3,e4⟩:=hold j hj;rw[e4]at hc;have:=h.gX hc;have:=(pQ i b hb hi).2.1;omega
   ·exact wR i j b c hb hc hi hj e
 ·intro i b hb
  by_cases hi:al i
  ·exact oZ i hi
  ·exact(pQ i b hb hi).1
theorem gV.aFW(h:gV E X w0 ρ al fr hp a w){w':World}{M:Nat->Prop}(hB:zL M w w')(hM:∀b,M b->aHU ρ hp b){ρ':Nat->Nat}{hp':Nat->Option iM}{al':Nat->Prop}(oZ:∀i,al i->al' i)
  (hρ:∀i,al i->ρ' i=ρ i)
  (hold:∀i b',al i->hp' i=some b'->(¬M (ρ i)/\hp i=some b')\/(M (ρ i)/\∃b,hp i=some b/\sameShape b b'/\∀Y,Bg Y w' (ρ i) b'))
  (pQ:∀i b,hp' i=some b->¬al i->al' i/\w.heap.size<=ρ' i/\∀Y,Bg Y w' (ρ' i) b)
  (wR:∀i j b c,hp' i=some b->hp' j=some c->¬al i->¬al j->ρ' i=ρ' j->i=j):gV E X w0 ρ' al' fr hp' a w'/\fV (XO X ρ hp) w (XO X ρ' hp') w':=by
 have aTX:∀b,M b->w0.Ed b:=fun b hb=>by
  obtain⟨id,bl,h1,rfl⟩:=hM b hb;exact(h.blk id bl h1).1.Ed
 have Tt:Kept w0 w w':=⟨hB.os,hB.tape,hB.output,hB.size,fun b hb=>hB.block b (by have:=h.below.size;have:=Old.Ps hb;omega) (fun hm=>hb (aTX b hm)),fun b hb=>by
  by_cases hm:M b
  ·exact hB.room b hm
  ·exact tT (hB.block b (by have:=h.below.size;have:=w0.aSD b hb;omega) hm)⟩
 have Qk:∀i b',al i->hp' i=some b'->∃b,hp i=some b/\sameShape b b':=by
  intro i b' hi hb;rcases hold i b' hi hb with ⟨_,h2⟩ |⟨_,b,h2,h3,_⟩
  ·exact⟨b',h2,sameShape.refl _⟩
  ·exact⟨b,h2,h3⟩
 have hl:fV (XO X ρ hp) w (XO X ρ' hp') w':=by
  refine⟨hB.size,fun b hb hx=>⟨hB.block b hb (fun hm=>hx (.inr (hM b hm))),fun ho=>?_⟩⟩;rcases ho with ho |⟨i,bl,h1,h2⟩
  ·exact hx (.inl ho)
  ·by_cases hi:al i
   ·obtain⟨b0,h3,_⟩:=Qk i bl hi h1;exact hx (.inr ⟨i,b0,h3,by rw[<-hρ i hi];exact h2⟩)
   ·have:=(pQ i bl h1 hi).2.1;omega
 have pO:∀i b,al i->hp i=some b->jM w' (ρ i)=jM w (ρ i):=by
  intro i b hi hb
  by_cases hm:M (ρ i)
  ·exact hB.room _ hm
  ·exact tT (hB.block _ (h.gX hb) hm)
 refine⟨h.change hl Tt ?_ ?_ ?_ oZ ?_,hl⟩
 ·intro i hi;refine⟨hρ i hi,fun b' vL=>?_⟩;obtain⟨b,h2,h3⟩:=Qk i b' hi vL;exact⟨b,h2,h3,pO i b hi h2⟩
 ·intro i b hb
  by_cases hi:al i
  ·rw[hρ i hi];rcases hold i b hi hb with ⟨hm,h2⟩ |⟨_,b0,h2,_,h4⟩
   ·exact⟨(h.blk i b h2).1,(h.blk i b h2).2.later hl (hB.block _ (h.gX h2) hm)⟩
   ·exact⟨(h.blk i b0 h2).1,h4 _⟩
  ·obtain⟨_,h2,h3⟩:=pQ i b hb hi;exact⟨.inl (bMN h.below.size h2),h3 _⟩
 ·intro i j b c hb hc e
  by_cases hi:al i
  ·obtain⟨b0,h1,_⟩:=Qk i b hi hb
   by_cases hj:al j
   ·obtain⟨c0,h2,_⟩:=Qk j c hj hc;rw[hρ i hi,hρ j hj]at e;exact h.inj i j b0 c0 h1 h2 e
   ·rw[hρ i hi]at e;have:=h.gX h1;have:=(pQ j c hc hj).2.1;omega
  ·by_cases hj:al j
   ·obtain⟨c0,h2,_⟩:=Qk j c hj hc;rw[hρ j hj]at e;have:=h.gX h2;have:=(pQ i b hb hi).2.1;omega
   ·exact wR i j b c hb hc hi hj e
 ·intro i b hb
  by_cases hi:al i
  ·exact oZ i hi
  ·exact(pQ i b hb hi).1
theorem wB(keep:Bool):∀(rs:List D) (id:Nat),(takeAll keep id rs).1.length=rs.length
 | [],_=>rfl
 |d :: r,id=>by simp[takeAll,wB keep r (id+1)]
theorem wC(keep:Bool):∀(rs:List D) (id:Nat) (i:Nat) (d:D),rs[i]?=some d->(takeAll keep id rs).1[i]?=some (takeIn keep (id+i) d).1
 |d0 :: r,id,0,d,h=>by simp at h;subst h;rfl
 |d0 :: r,id,i+1,d,h=>by
  simp only[bNO]at h;have:=wC keep r (id+1) i d h;simp only[takeAll,bNO,this];rw[show id+1+i=id+(i+1) by omega]
theorem takeAll_ups(keep:Bool):∀(rs:List D) (id:Nat) (hp:Nat->Option iM) (j:Nat),
  applyUps (takeAll keep id rs).2 hp j=match (if id<=j then rs[j-id]? else none)with
   |some (.own e k ns)=>if keep=true then some ⟨e,.ints k ns⟩else hp j
   |_=>hp j
 | [],id,hp,j=>by simp[takeAll,applyUps]
 |d :: r,id,hp,j=>by
  simp only[takeAll];rw[jB,takeAll_ups keep r (id+1)]
  by_cases hj:id+1<=j
  ·rw[if_pos hj,aU];have e:j-id=(j-(id+1))+1:=by omega
   rw[e,bNO];have hd:applyUps (takeIn keep id d).2 hp j=hp j:=by
    cases d <;> cases keep <;> first |rfl | (simp only[takeIn,cond_true,applyUps];rw[eF _ _ (by omega)])
   rw[hd]
  ·rw[if_neg hj]
   by_cases bIV:id<=j
   ·obtain rfl:j=id:=by omega
    rw[if_pos (bLR _),Nat.sub_self];cases d <;> cases keep <;> simp[takeIn,applyUps,bG]
   ·rw[if_neg bIV];cases d <;> cases keep <;> first |rfl | (simp only[takeIn,cond_true,applyUps];rw[eF _ _ (by omega)])
end
end AI
namespace AI
open Go Go.RowKit
section
variable {P:Program} {E:Env} {X:Nat->Prop} {w0:Old} {ρ:Nat->Nat} {al:Nat->Prop} {fr:Nat->A} {hp:Nat->Option iM} {a:Act} {w:World} {o:Oper} {id:Nat} {x:A} {u:nV}
def Ob(P:Program)(E:Env)(X:Nat->Prop)(w0:Old)(al:Nat->Prop)(fr:Nat->A)(hp:Nat->Option iM)(a:Act)(w:World)(o:Oper)(id:Nat)(x:A)(u:nV):Prop :=
 ∀(next:Act->World->Prop) (Q:Exit->Act->World->Prop),(∀ρ' v w',gV E X w0 ρ' (mB al id) (yZ o x fr) (applyUps u hp) (a.put o.dst v) w'->next (a.put o.dst v) w')->o.wp P a w next Q
theorem iC.step(h:iC P E X w0 al fr hp a w o id x u):Ob P E X w0 al fr hp a w o id x u:=by
 intro next Q hn;obtain⟨ρ',v,w',hr,hs⟩:=h;unfold Oper.wp;rcases hr with hr |⟨hr,rfl⟩
 ·rw[hr];exact hn ρ' v w' hs
 ·rw[hr];exact hn ρ' undef w' hs
theorem Px{α β:Type}{f:α->Option β}:∀{l:List α} {r:List β},l.mapM f=some r->∀(i:Nat) (y:β),r[i]?=some y->∃x,l[i]?=some x/\f x=some y
 | [],r,h,i,y,hy=>by simp at h;subst h;simp at hy
 |x :: l,r,h,i,y,hy=>by
  rw[bMY]at h;simp only[bNW,bNX,bNY,Option.some.injEq]at h;obtain⟨z,hz,zs,Wy,rfl⟩:=h
  match i with
  |0=>simp at hy;subst hy;exact⟨x,rfl,hz⟩
  |i+1=>simp at hy ⊢;exact Px Wy i y hy
theorem Te{args:List A}{y:A}(hy:y∈args){i:Nat}(hi:i∈refs y):(i,none)∈Uo args :=
 List.mem_map.2 ⟨i,List.mem_flatMap.2 ⟨y,hy,hi⟩,rfl⟩
theorem yN(h:gV E X w0 ρ al fr hp a w):∀{args:List Operand} {vs:List Value},argVals (args.map (evA E fr))=some vs->args.map a.eval=vs
 | [],vs,he=>by cases he;rfl
 |y :: ys,vs,he=>by
  simp only[bLQ]at he ⊢;unfold argVals at he;split at he
  ·cases ‹_ :: _=[]›
  ·rename_i v r gR;obtain⟨e1,e2⟩:=List.cons.inj gR;obtain⟨vr,bDM,rfl⟩:=Option.map_eq_some_iff.1 he;have hy:=(h.ev y).1;rw[e1]at hy;rw[<-e2]at bDM;rw[yN h bDM,hy.1]
  ·cases he
theorem Hk{R:Type}{g:Prop}{x:Option R}{r:R}(h:aP g x=some r):g/\x=some r:=by
 unfold aP at h;split at h
 ·rename_i hg;exact⟨hg,h⟩
 ·cases h
theorem Xi{R:Type}{g:Prop}{x:Option R}(h:g):aP g x=x:=by unfold aP;rw[if_pos h]
theorem aKA (h : gV E X w0 ρ al fr hp a w) (hd : gY E.nt o = true) (hC : iS P E) {f : FuncId} {fo : Operand} (hf : a.eval fo = .func (.func f) #[] #[]) {args : List Operand} {uC : Array TypeId} (ho : o.op = .call ⟨.value fo, args.toArray, uC⟩) {g : Prop} {rs : List Value} (hr : (argVals (args.map (evA E fr))).bind (E.ext f) = some (g, rs)) (hg : g)
    (he : some (aSA rs, []) = some (x, u)) : iC P E X w0 al fr hp a w o id x u := by
  obtain ⟨vs, aYT, hx⟩ := Option.bind_eq_some_iff.1 hr
  obtain ⟨Mx, eZ⟩ := hC.x f vs g rs hx hg
  have hargs := yN h aYT
  have hex : (execOp a.eval o).run P w = .ok (.value (resV rs)) w := by
    unfold execOp
    rw [ho]
    simp only [resolve, hf, Deferred.ofValue, Sem.run_bind, Sem.run_pure, Result.andThen_ok, invoke]
    rw [← eZ w]
    congr 1
    simp [← hargs]
  match rs, he with
  | [v], he =>
    obtain ⟨e1, e2⟩ := Prod.mk.inj (Option.some.inj he)
    rw [← e1, ← e2]
    exact bW h hd hex ⟨rfl, Mx v (by simp)⟩ (by intro i hi; cases hi)
  | [], he =>
    obtain ⟨e1, e2⟩ := Prod.mk.inj (Option.some.inj he)
    rw [← e1, ← e2]
    exact bW h hd hex ⟨#[], rfl, rfl, fun i y v hy => by simp at hy⟩ (by intro i hi; cases hi)
  | v1 :: v2 :: vr, he =>
    obtain ⟨e1, e2⟩ := Prod.mk.inj (Option.some.inj he)
    rw [← e1, ← e2]
    refine bW h hd hex ⟨(v1 :: v2 :: vr).toArray, rfl, by simp, fun i y v hy hv => ?_⟩ ?_
    · simp only [bLV, bMV] at hy
      obtain ⟨q, hq, rfl⟩ := hy
      have : q = v := by have : (v1 :: v2 :: vr)[i]? = some v := by simpa using hv
                         rw [hq] at this; exact Option.some.inj this
      subst this
      exact ⟨rfl, Mx q (bMA hq)⟩
    · intro j hj
      obtain ⟨y, hy, hj⟩ := List.mem_flatMap.1 hj
      obtain ⟨q, _, rfl⟩ := List.mem_map.1 hy
      simp [refsV, refsL] at hj
theorem Wv:∀{l r:List Nat},leqN l r=true->l=r
 | [],[],_=>rfl
 |a :: l,b :: r,h=>by
  simp only[leqN,bLX]at h;rw[bMF h.1,Wv h.2]
 | [],_ :: _,h=>by cases h
 |_ :: _,[],h=>by cases h
theorem xA(ps:List Nat)(hp:Nat->Option iM):∀(args:List A) (i:Nat) (us:List (Nat×Nat)) (ds:List D),argsIO ps hp i args=some (us,ds) ->
  (∃gid:Nat->Nat,∀q∈us,i<=q.1/\gid q.1=q.2)/\(∀q∈us,∃y d,args[q.1-i]?=some y/\i<=q.1/\toIO hp y=some (q.2,d)/\ds[q.1-i]?=some d)/\ds.length=args.length /\
  ∀(j:Nat) (d:D),ds[j]?=some d->∃y,args[j]?=some y/\((∃k,toIO hp y=some (k,d)/\(i+j,k)∈us)\/(toD hp y=some d/\∀r∈refs y,r∈nC ps i args))
 | [],i,us,ds,h=>by
  cases h;exact⟨⟨fun _=>0,fun q hq=>by cases hq⟩,fun q hq=>(by cases hq),rfl,fun j d hj=>by simp at hj⟩
 |y :: args,i,us,ds,h=>by
  unfold argsIO at h;cases Qd:ps.elem i with
  |true =>
   rw[Qd]at h;simp only[cond_true]at h;split at h
   ·rename_i k d Hg;split at h
    ·rename_i bCR ds' hr;cases h;obtain⟨⟨gid,h1⟩,h2,h3,h4⟩:=xA ps hp args (i+1) bCR ds' hr;refine⟨⟨fun q=>if q=i then k else gid q,?_⟩,?_,by simp[h3],?_⟩
     ·intro q hq;rcases List.mem_cons.1 hq with rfl |hq
      ·exact⟨bLR _,by simp⟩
      ·obtain⟨h5,h6⟩:=h1 q hq;exact⟨by omega,by simp only;rw[aY];exact h6⟩
     ·intro q hq;rcases List.mem_cons.1 hq with rfl |hq
      ·exact⟨y,d,by simp,bLR _,Hg,by simp⟩
      ·obtain⟨y',d',h5,h6,h7,h8⟩:=h2 q hq;exact⟨y',d',by rw[show q.1-i=(q.1-(i+1))+1 by omega];simpa using h5,by omega,h7,by rw[show q.1-i=(q.1-(i+1))+1 by omega];simpa using h8⟩
     ·intro j d' hj
      match j with
      |0 =>
       simp at hj;subst hj;exact⟨y,rfl,.inl ⟨k,Hg,by simp⟩⟩
      |j+1 =>
       obtain⟨y',h5,h6⟩:=h4 j d' (by simpa using hj);refine⟨y',by simpa using h5,?_⟩;rcases h6 with ⟨k',h7,h8⟩ |⟨h7,h8⟩
       ·exact .inl ⟨k',h7,bMK _ (by rw[show i+(j+1)=i+1+j by omega];exact h8)⟩
       ·exact .inr ⟨h7,fun r hr=>by unfold nC;exact bOI _ (h8 r hr)⟩
    ·cases h
   ·cases h
  |false =>
   rw[Qd]at h;simp only[cond_false]at h;split at h
   ·rename_i d Hg;split at h
    ·rename_i bCR ds' hr;cases h;obtain⟨⟨gid,h1⟩,h2,h3,h4⟩:=xA ps hp args (i+1) us ds' hr;refine⟨⟨gid,fun q hq=>⟨by have:=(h1 q hq).1;omega,(h1 q hq).2⟩⟩,?_,by simp[h3],?_⟩
     ·intro q hq;obtain⟨y',d',h5,h6,h7,h8⟩:=h2 q hq;exact⟨y',d',by rw[show q.1-i=(q.1-(i+1))+1 by omega];simpa using h5,by omega,h7,by rw[show q.1-i=(q.1-(i+1))+1 by omega];simpa using h8⟩
     ·intro j d' hj
      match j with
      |0 =>
       simp at hj;subst hj;exact⟨y,rfl,.inr ⟨Hg,fun r hr=>by unfold nC;rw[Qd];exact List.mem_append_left _ hr⟩⟩
      |j+1 =>
       obtain⟨y',h5,h6⟩:=h4 j d' (by simpa using hj);refine⟨y',by simpa using h5,?_⟩;rcases h6 with ⟨k',h7,h8⟩ |⟨h7,h8⟩
       ·exact .inl ⟨k',h7,by rw[show i+(j+1)=i+1+j by omega];exact h8⟩
       ·exact .inr ⟨h7,fun r hr=>by unfold nC;exact bOI _ (h8 r hr)⟩
    ·cases h
   ·cases h
theorem Dw:∀(us:List (Nat×Nat)) (js:List D) (ub:nV),backIO us js=some ub->ub.map (·.1)=us.map (·.2)/\∀(j:Nat) (q:Nat×Nat),us[j]?=some q->∃e k ns o n,js[j]?=some (.io e k ns o n)/\ub[j]?=some (q.2,some ⟨e,.ints k ns⟩)
 | [],[],ub,h=>by cases h;exact⟨rfl,fun j q hj=>by simp at hj⟩
 | (p,k) :: us,d :: js,ub,h=>by
  cases d with
  |io e kk ns o n =>
   simp only[backIO]at h;split at h
   ·rename_i bFZ hr;cases h;obtain⟨h1,h2⟩:=Dw us js bFZ hr;refine⟨by simp[h1],fun j q hj=>?_⟩
    match j with
    |0=>simp at hj;subst hj;exact⟨e,kk,ns,o,n,rfl,rfl⟩
    |j+1 =>
     obtain⟨e',k',lC,o',n',h3,h4⟩:=h2 j q (by simpa using hj);exact⟨e',k',lC,o',n',by simpa using h3,by simpa using h4⟩
   ·cases h
  |s=>cases h
  |rows=>cases h
  |agg=>cases h
  |own=>cases h
  |back=>cases h
 | [],_ :: _,ub,h=>by cases h
 |_ :: _,[],ub,h=>by cases h
theorem oT{i:Nat}:∀{u:nV} {hp:Nat->Option iM},i ∉ u.map (·.1)->applyUps u hp i=hp i
 | [],_,_=>rfl
 | (j,b) :: u,hp,h=>by
  simp only[bLQ,bMX,not_or]at h;simp only[applyUps];rw[oT h.2,eF _ _ h.1]
theorem Dx{i:Nat}{b:Option iM}:∀{u:nV} {hp:Nat->Option iM} {j:Nat},nodup (u.map (·.1))=true->u[j]?=some (i,b)->applyUps u hp i=b
 | [],_,j,_,h=>by simp at h
 | (k,c) :: u,hp,j,hn,h=>by
  simp only[bLQ,nodup,bLX,bMZ]at hn
  match j with
  |0 =>
   simp at h;obtain⟨rfl,rfl⟩:=h;simp only[applyUps];rw[oT (fun hm=>by
    have:(u.map (·.1)).elem k=true:=by simpa using hm
    rw[this]at hn;cases hn.1),bG]
  |j+1 =>
   simp only[applyUps];exact Dx (j:=j) hn.2 (by simpa using h)
theorem Cg{α:Type}{f:α->Nat}:∀{l:List α} {j j':Nat} {q q':α},nodup (l.map f)=true->l[j]?=some q->l[j']?=some q'->f q=f q'->j=j'
 | [],j,_,q,_,_,h,_,_=>by simp at h
 |y :: l,j,j',q,q',hn,h,h',he=>by
  simp only[bLQ,nodup,bLX,bMZ]at hn;have vU:∀z∈l,f z≠f y:=fun z hz e=>by
   have:(l.map f).elem (f y)=true:=by
    have:f y∈l.map f:=List.mem_map.2 ⟨z,hz,e⟩;simpa using this
   rw[this]at hn;cases hn.1
  match j,j' with
  |0,0=>rfl
  |0,j'+1=>simp at h h';subst h;exact absurd he.symm (vU q' (bMA h'))
  |j+1,0=>simp at h h';subst h';exact absurd he (vU q (bMA h))
  |j+1,j'+1=>exact congrArg (·+1) (Cg hn.2 (by simpa using h) (by simpa using h') he)
theorem aFH{xs ys:List Nat}(h:Ju xs ys=true){x:Nat}(hx:x∈xs):x ∉ ys:=fun hy=>by
 have:=List.all_eq_true.1 h x hx;have h2:ys.elem x=true:=by simpa using hy
 rw[h2]at this;cases this
theorem Bq{y:A}{k:Nat}{d:D}(h:toIO hp y=some (k,d)):∃e kk ns off n,d=.io e kk ns off n/\hp k=some ⟨e,.ints kk ns⟩/\((y=.v (.one (.buf k n))/\off=0)\/y=.v (.one (.view k off n))):=by
 unfold toIO at h;split at h
 ·split at h
  ·rename_i e kk ns hb;cases h;exact⟨_,_,_,_,_,rfl,hb,.inl ⟨rfl,rfl⟩⟩
  ·cases h
 ·split at h
  ·rename_i e kk ns hb;cases h;exact⟨_,_,_,_,_,rfl,hb,.inr rfl⟩
  ·cases h
 ·cases h
theorem Sn(h:gV E X w0 ρ al fr hp a w){y:A}{v:Value}(hr:vD ρ hp (XO X ρ hp) w y v){k:Nat}{e:TypeId}{kk:IntKind}{ns:List Int}{off n:Nat}(hd:toIO hp y=some (k,.io e kk ns off n)):aQJ w (ρ k) e kk ns off n v:=by
 obtain⟨e',kk',lC,aSF,n',heq,hb,hy⟩:=Bq hd;cases heq;have hB:Bg (fun _=>False) w (ρ k) ⟨e,.ints kk ns⟩:=(h.blk k _ hb).2;rcases hy with ⟨rfl,rfl⟩ |rfl
 ·obtain⟨cap,hv,yH,hc,_⟩:=hr;have:=hc _ kk ns hb rfl;exact⟨⟨0,cap,hv,yH,fun _=>rfl,fun _=>rfl,by omega,this.2.1,this.2.2⟩,hB⟩
 ·obtain⟨o',cap,hv,yH,hA,hA0,hc⟩:=hr;have:=hc _ kk ns hb rfl;exact⟨⟨o',cap,hv,yH,hA,hA0,this⟩,hB⟩
theorem Yf{y:A}{d:D}(h:toD hp y=some d):Am d=false:=by
 unfold toD at h;split at h
 ·cases h;rfl
 ·cases h;rfl
 ·cases h;rfl
 ·split at h
  ·cases h;rfl
  ·split at h
   ·cases h;rfl
   ·cases h
  ·cases h
 ·split at h
  ·cases h;rfl
  ·cases h
 ·cases h
theorem Hy{Y:Nat->Prop}{w:World}{g:Nat->Nat}{i:Nat}{v:Value}{d:D}(hn:Am d=false)(h:lL Y w d v):Ye Y w g i v d:=by
 cases d with
 |io=>cases hn
 |s x=>exact h
 |rows a b c=>exact h
 |agg cs=>exact h
 |own a b c=>exact h
 |back=>exact h
theorem Wx{gid:Nat->Nat}:∀{us:List (Nat×Nat)} {q:Nat×Nat},(∀q∈us,gid q.1=q.2)->q∈us->idAt us q.1=gid q.1
 | [],q,_,h=>by cases h
 |q0 :: us,q,hg,h=>by
  simp only[idAt];cases hb:bLS q0.1 q.1 with
  |true =>
   rw[cond_true,<-bMF hb];exact(hg q0 (bLY ..)).symm
  |false =>
   rw[cond_false];rcases List.mem_cons.1 h with rfl |h
   ·rw[Nat.beq_refl]at hb;cases hb
   ·exact Wx (fun q hq=>hg q (bMK _ hq)) h
theorem Sx{us:List (Nat×Nat)}{d:D}{e:TypeId}{k:IntKind}{ns:List Int}(h:reBack us d=.own e k ns):d=.own e k ns:=by
 cases d <;> first |exact h |cases h
theorem eff_callIO(h:gV E X w0 ρ al fr hp a w)(hd:gY E.nt o=true)(hC:iS P E)(tM:∀j,j<8->¬al (id+j)){f:FuncId}{fo:Operand}(hf:a.eval fo=.func (.func f) #[] #[]){args:List Operand}{uC:Array TypeId}(ho:o.op=.call ⟨.value fo,args.toArray,uC⟩){p:Nat}{ps:List Nat}(Hg:E.ioF f=p :: ps)
  (he:callIO E (p :: ps) id (keepOf E o) f (args.map (evA E fr)) hp (fun a u=>some (a,u))=some (x,u)):Ob P E X w0 al fr hp a w o id x u:=by
 simp only[callIO,Aa]at he;generalize keepOf E o=keep at he;split at he
 ·cases he
 ·rename_i us ds aQZ;cases aJN:leqN (us.map (·.1)) (p :: ps)&&(nodup (us.map (·.2))&&Ju (us.map (·.2)) (nC (p :: ps) 0 (args.map (evA E fr))))with
  |false=>rw[aJN]at he;cases he
  |true =>
  rw[aJN]at he;simp only[cond_true]at he;simp only[bLX]at aJN;obtain⟨aRB,aOH,bAH⟩:=aJN;have Qd:us.map (·.1)=p :: ps:=Wv aRB;split at he
  ·cases he
  ·rename_i gd rs aTH;obtain⟨aQW,he⟩:=Hk he;obtain⟨Bw,js,rfl,aEB,aEE⟩:=hC.i f p ps ds gd rs Hg aTH aQW;have aWI:us.length=(p :: ps).length:=by rw[<-Qd];simp
   have Zg:(Bw ++ js).length-us.length=Bw.length:=by rw[bMU,aEB.len,aWI];omega
   rw[Zg]at he;rw[bNG,bOJ]at he;cases Xg:bLU us.length (Bw ++ js).length&&bLU (Bw ++ js).length 8&&!(Bw.any shares)with
   |false=>rw[Xg]at he;cases he
   |true =>
   rw[Xg]at he;simp only[cond_true]at he;simp only[bLX,bMZ]at Xg;obtain⟨⟨_,bIM⟩,aTP⟩:=Xg;have Qi:Bw.length<=8:=by have:=bNP bIM;rw[bMU]at this;omega
   split at he
   ·cases he
   ·rename_i ub bDP;obtain⟨⟨gid,aDY⟩,bHM,aMA,bAE⟩:=xA _ _ _ _ _ _ aQZ;obtain⟨aTB,aTA⟩:=Dw _ _ _ bDP;rw[bNK]at aMA;obtain⟨U,hU⟩:∃U:nV,U=(nC (p :: ps) 0 (args.map (evA E fr))).map fun i=>(i,none):=⟨_,rfl⟩
    have aHR:Cons U:=by rw[hU];intro q hq;obtain⟨i,_,rfl⟩:=List.mem_map.1 hq;rfl
    have bKC:U.map (·.1)=nC (p :: ps) 0 (args.map (evA E fr)):=by rw[hU,List.map_map];exact List.map_id _
    have Eh:∀q∈us,∃e kk ns off n,hp q.2=some ⟨e,.ints kk ns⟩/\ds[q.1]?=some (.io e kk ns off n):=by
     intro q hq;obtain⟨y,d,h1,_,h2,h3⟩:=bHM q hq;obtain⟨e,kk,ns,off,n,rfl,h4,_⟩:=Bq h2;exact⟨e,kk,ns,off,n,h4,by simpa using h3⟩
    have aOB:∀q∈us,applyUps U hp q.2=hp q.2:=fun q hq=>oT (by rw[bKC];exact aFH bAH (List.mem_map.2 ⟨q,hq,rfl⟩))
    have oY:∀i,i∈p :: ps->∃q∈us,q.1=i/\gid i=q.2:=by
     intro i hi;rw[<-Qd]at hi;obtain⟨q,hq,rfl⟩:=List.mem_map.1 hi;exact⟨q,hq,rfl,(aDY q hq).2⟩
    have hY:∀b,XO X ρ (applyUps U hp) b->b<w.heap.size:=by
     rintro b (hb |⟨i,bl,h1,h2⟩)
     ·have:=Old.Ps (h.x0 b hb);have:=h.below.size;omega
     ·have:=h.gX (fL aHR h1);omega
    have hG:GlobOk E.glob (XO X ρ (applyUps U hp)) w:=by
     intro g k ns hg;obtain⟨h1,h2,h3⟩:=h.Nc g k ns hg;exact⟨h1,fun ho=>h2 (ho.imp (fun h=>h) (aHU.of_cons aHR)),h3.later (fV.cons aHR)⟩
    obtain⟨g0,hg0⟩:∃g0:Nat->Nat,g0=fun i=>ρ (gid i):=⟨_,rfl⟩
    have aML:∀b,zE (p :: ps) g0 b->∃q∈us,ρ q.2=b:=by
     rintro b ⟨i,hi,rfl⟩;obtain⟨q,hq,_,h2⟩:=oY i hi;exact⟨q,hq,by rw[hg0];simp only;rw[h2]⟩
    have aED:=aEB.run (XO X ρ (applyUps U hp)) w (args.map a.eval) g0 hY hG (by simp[aMA]) (fun i d v hi hv=>by
     obtain⟨y,aDK,aNX⟩:=bAE i d hi;simp only[bLV,bMV]at aDK hv;obtain⟨z,hz,rfl⟩:=aDK;obtain⟨z',aSR,rfl⟩:=hv;rw[hz]at aSR;cases aSR;have gR:=h.ev z;rcases aNX with ⟨k,h1,h2⟩ |⟨h1,h2⟩
     ·rw[bLT]at h2;obtain⟨e,kk,ns,off,n,rfl,h4,_⟩:=Bq h1;have e1:g0 i=ρ k:=by rw[hg0];simp only;rw[(aDY _ h2).2]
      refine⟨by rw[e1];exact .inr ⟨k,_,(aOB _ h2).trans h4,rfl⟩,by rw[e1];exact Sn h gR.1 h1⟩
     ·refine Hy (Yf h1) (Br h aHR gR.1 (fun i hi=>?_) h1);rw[hU];exact List.mem_map.2 ⟨i,h2 i hi,rfl⟩) (fun i j hi hj heq=>by
     obtain⟨q,hq,rfl,h1⟩:=oY i hi;obtain⟨q',Wz,rfl,h2⟩:=oY j hj;rw[hg0]at heq;simp only[h1,h2]at heq;obtain⟨e1,k1,n1,o1,m1,vK,_⟩:=Eh q hq;obtain⟨e2,k2,n2,o2,m2,aJP,_⟩:=Eh q' Wz;have h3:=h.inj _ _ _ _ vK aJP heq;obtain⟨a1,aWZ⟩:=bMP hq;obtain⟨a2,aUX⟩:=bMP Wz;have:=Cg aOH aWZ aUX h3;subst this;rw[aWZ]at aUX;cases aUX;rfl)
    have eZ:(execOp a.eval o).run P w=.ok (.enter f (args.map a.eval).toArray) w:=by
     unfold execOp;rw[ho];simp only[resolve,hf,Deferred.ofValue,Sem.run_bind,Sem.run_pure,Result.andThen_ok,invoke];rw[<-aEE];congr 1;simp
    intro next Q hn;unfold Oper.wp;rw[eZ];simp only[Oper.upon_enter];refine aED.mono ?_;rintro e w' ⟨vF,rfl,aOZ,⟨g,aZZ,aDX,aUK⟩,Xh⟩;simp only;obtain⟨Md,aDP⟩:∃Md,Md=Bw.map (reBack us):=⟨_,rfl⟩;rw[<-aDP]at he;have aLX:Md.length=Bw.length:=by rw[aDP];simp
    have bBK:∀{i:Nat} {e:TypeId} {k:IntKind} {ns:List Int},Md[i]?=some (.own e k ns)->Bw[i]?=some (.own e k ns):=by
     intro i e k ns hi;rw[aDP,bLV]at hi;obtain⟨d,h1,h2⟩:=Option.map_eq_some_iff.1 hi;rw[h1,Sx h2]
    obtain⟨zF,aOM⟩:∃zF,zF=applyUps ub hp:=⟨_,rfl⟩;obtain⟨tA,My⟩:∃tA,tA=applyUps (takeAll keep id Md).2 zF:=⟨_,rfl⟩;obtain⟨ρ2,Ao⟩:∃ρ2:Nat->Nat,ρ2=fun j=>if id<=j/\j<id+8 then g (j-id)else ρ j:=⟨_,rfl⟩
    have vU:∀i,al i->¬(id<=i/\i<id+8):=fun i hi hr=>tM (i-id) (by omega) (by rw[show id+(i-id)=i by omega];exact hi)
    have rN:∀j,tA j=match (if id<=j then Md[j-id]? else none)with
      |some (.own e k ns)=>if keep=true then some ⟨e,.ints k ns⟩else zF j
      |_=>zF j:=fun j=>by rw[My];exact takeAll_ups keep Md id _ j
    have aYW:nodup (ub.map (·.1))=true:=by rw[aTB];exact aOH
    have aUH:∀q∈us,∃(e:TypeId) (k:IntKind) (ns:List Int) (j:Nat),zF q.2=some ⟨e,.ints k ns⟩/\us[j]?=some q/\∃(o n:Nat),js[j]?=some (D.io e k ns o n):=by
     intro q hq;obtain⟨j,hj⟩:=bMP hq;obtain⟨e,k,ns,o,n,h1,h2⟩:=aTA j q hj;exact⟨e,k,ns,j,by rw[aOM];exact Dx aYW h2,hj,o,n,h1⟩
    have aDT:∀j,j ∉ us.map (·.2)->zF j=hp j:=fun j hj=>by rw[aOM];exact oT (by rw[aTB];exact hj)
    have bAU:∀j b,zF j=some b->al j:=by
     intro j b hb
     by_cases hj:j∈us.map (·.2)
     ·obtain⟨q,hq,rfl⟩:=List.mem_map.1 hj;obtain⟨e,kk,ns,off,n,h1,_⟩:=Eh q hq;exact h.alh _ _ h1
     ·rw[aDT j hj]at hb;exact h.alh _ _ hb
    have aTZ:∀j b,zF j=some b->ρ j<w.heap.size:=by
     intro j b hb
     by_cases hj:j∈us.map (·.2)
     ·obtain⟨q,hq,rfl⟩:=List.mem_map.1 hj;obtain⟨e,kk,ns,off,n,h1,_⟩:=Eh q hq;exact h.gX h1
     ·rw[aDT j hj]at hb;exact h.gX hb
    have Qf:∀j,¬al j->zF j=none:=by
     intro j hj;cases hq:zF j with
     |none=>rfl
     |some b=>exact absurd (bAU j b hq) hj
    have pP:∀j b,tA j=some b->¬al j->∃e k ns,id<=j/\Md[j-id]?=some (.own e k ns)/\keep=true/\b=⟨e,.ints k ns⟩:=by
     intro j b hj oZ;rw[rN]at hj;split at hj
     ·rename_i e k ns hq;split at hj
      ·rename_i hk;cases hj;split at hq
       ·exact⟨e,k,ns,‹_›,hq,hk,rfl⟩
       ·cases hq
      ·rw[Qf j oZ]at hj;cases hj
     ·rw[Qf j oZ]at hj;cases hj
    have aDO:∀i,al i->tA i=zF i:=by
     intro i hi;rw[rN];split
     ·rename_i e k ns hq;split at hq
      ·exact absurd ⟨‹_›,by have:=aR hq;omega⟩ (vU i hi)
      ·cases hq
     ·rfl
    have Nb:=h.aFW (ρ':=ρ2) (hp':=tA) (al':=mB al id) aOZ (fun b hb=>by
      obtain⟨q,hq,rfl⟩:=aML b hb;obtain⟨e,kk,ns,off,n,h1,_⟩:=Eh q hq;exact⟨q.2,_,h1,rfl⟩) (fun _ h=>.inl h)
     (fun i hi=>by rw[Ao];simp only;rw[if_neg (vU i hi)])
     (fun i b' hi hb=>by
      rw[aDO i hi]at hb
      by_cases hj:i∈us.map (·.2)
      ·obtain⟨q,hq,rfl⟩:=List.mem_map.1 hj;obtain⟨e,kk,ns,off,n,h1,h2⟩:=Eh q hq;obtain⟨e',k',lC,j,h3,h4,o,m,h5⟩:=aUH q hq;rw[h3]at hb;cases hb;have aWP:(p :: ps)[j]?=some q.1:=by rw[<-Qd];simp[h4]
       obtain⟨e1,k1,n1,o1,m1,e2,k2,n2,h6,h7,h8⟩:=aEB.io j q.1 aWP;rw[h2]at h6;cases h6;rw[h5]at h7;cases h7;have aUU:Om w' (g0 q.1) (D.io e' k' lC 0 0):=Xh j q.1 _ aWP h5;have e0:g0 q.1=ρ q.2:=by rw[hg0];simp only;rw[(aDY q hq).2]
       rw[e0]at aUU;refine .inr ⟨⟨q.1,by rw[<-Qd];exact List.mem_map.2 ⟨q,hq,rfl⟩,e0⟩,_,h1,⟨fun k ns he=>?_,fun cs he=>by cases he⟩,fun Y=>aUU⟩;cases he;exact⟨_,_,rfl,h8.symm⟩
      ·rw[aDT i hj]at hb;refine .inl ⟨fun hm=>?_,hb⟩;obtain⟨q,hq,h1⟩:=aML _ hm;obtain⟨e,kk,ns,off,n,h2,_⟩:=Eh q hq;have:=h.inj _ _ _ _ h2 hb h1;subst this;exact hj (List.mem_map.2 ⟨q,hq,rfl⟩))
     (fun j b hj oZ=>by
      obtain⟨e,k,ns,h1,h2,h3,rfl⟩:=pP j b hj oZ;have iN:=aR h2;obtain⟨v,hv⟩:=bA (l:=vF) (i:=j-id) (by omega);obtain⟨arr,cap,_,yL,hw,h4,aPA,h5,h6⟩:=aUK (j-id) _ v (bBK h2) hv;have e1:ρ2 j=g (j-id):=by rw[Ao];simp only;rw[if_pos ⟨h1,by omega⟩]
      exact⟨.inr ⟨h1,by omega⟩,by rw[e1];exact yL,fun Y=>⟨arr,by rw[e1];exact hw,bMN h4 aPA,h6⟩⟩)
     (fun i j b c hi hj bAW bAV e=>by
      obtain⟨e1,k1,Sa,h1,h2,h3,_⟩:=pP i b hi bAW;obtain⟨e2,k2,bGS,h4,h5,h6,_⟩:=pP j c hj bAV;have l1:=aR h2;have l2:=aR h5;rw[Ao]at e;simp only at e;rw[if_pos ⟨h1,by omega⟩,if_pos ⟨h4,by omega⟩]at e;have:=aDX _ _ _ _ (bBK h2) (bBK h5) rfl rfl e;omega)
    obtain⟨Tl,aZR⟩:=Nb;have aZB:∀{i:Nat} {d:D},Bw[i]?=some d->shares d=false:=by
     intro i d hi;cases hs:shares d with
     |false=>rfl
     |true =>
      have:Bw.any shares=true:=List.any_eq_true.2 ⟨d,bMA hi,hs⟩;rw[this]at aTP;cases aTP
    have Tm:∀(i:Nat) (d:D) (v:Value),Bw[i]?=some d->vF[i]?=some v->Bf ρ2 tA (XO X ρ2 tA) w' (takeIn keep (id+i) (reBack us d)).1 v/\∀j∈refsV (takeIn keep (id+i) (reBack us d)).1,mB al id j:=by
     intro i d v hi hv;have aZY:Md[i]?=some (reBack us d):=by rw[aDP,bLV,hi];rfl
     have hg:=aUK i d v hi hv;have bIX:=aR hi;have aQT:=aZB hi;cases d with
     |own e k ns =>
      obtain⟨arr,cap,rfl,yL,hw,h4,aPA,h5,h6⟩:=hg;have aZK:¬X (g i):=fun hx=>by have:=Old.Ps (h.x0 _ hx);have:=h.below.size;omega
      cases keep with
      |true =>
       have e1:ρ2 (id+i)=g i:=by rw[Ao];simp only;rw[if_pos ⟨by omega,by omega⟩];congr 1;omega
       refine⟨⟨cap,by rw[e1],h4,fun blk k1 Sa hb hk=>?_,fun blk cs hb hk=>?_⟩,fun j hj=>?_⟩
       rotate_left
       ·rw[rN,aU,show id+i-id=i by omega,aZY]at hb;simp only[reBack,if_true]at hb;cases hb;cases hk
       rotate_left
       ·rw[rN,aU,show id+i-id=i by omega,aZY]at hb;simp only[reBack,if_true]at hb;cases hb;cases hk;exact⟨rfl,h5,by rw[e1];unfold jM;rw[hw];exact aPA⟩
       ·simp only[reBack,takeIn,cond_true,refsV,refsL,bMI]at hj;subst hj;exact .inr ⟨by omega,by omega⟩
      |false =>
       refine⟨⟨_,cap,rfl,h4,fun j n hj=>⟨g i,0,rfl,(Array.getElem?_eq_some_iff.1 hw).1,?_,?_⟩⟩,fun j hj=>by simp[reBack,takeIn,refsV,refsL]at hj⟩
       ·rintro (hx |⟨j',bl,h7,h8⟩)
        ·exact aZK hx
        ·by_cases Jm:al j'
         ·rw[aDO j' Jm]at h7;have:=aTZ _ _ h7;have e2:ρ2 j'=ρ j':=by rw[Ao];simp only;rw[if_neg (vU j' Jm)]
          omega
         ·obtain⟨_,_,_,_,_,hk,_⟩:=pP j' bl h7 Jm;cases hk
       ·rw[bLT,cell_of_row w' (g i) j arr e (0,0) hw];exact h6 j n hj
     |s x=>exact⟨lL.any (d:=.s x) aQT rfl hg,fun j hj=>by simp[reBack,takeIn,refsV,refsL]at hj⟩
     |rows sz n f=>cases aQT
     |agg cs=>exact⟨lL.any (d:=.agg cs) aQT rfl hg,fun j hj=>by simp[reBack,takeIn,refsV]at hj⟩
     |io=>cases aQT
     |back p0 off n =>
      obtain⟨j,e,k,ns,h1,h2,h3⟩:=hg;obtain⟨q,hq,rfl,h4⟩:=oY p0 (bMA h1);have aZW:idAt us q.1=q.2:=(Wx (fun q hq=>(aDY q hq).2) hq).trans h4;obtain⟨e0,kk,ns0,off0,n0,hb0,_⟩:=Eh q hq;have aOX:=h.alh _ _ hb0;have e1:ρ2 q.2=g0 q.1:=by rw[Ao,hg0];simp only;rw[if_neg (vU _ aOX),h4]
      obtain⟨o',cap,h5,h6,h7,h8,h9,bFE,bKT⟩:=h3;simp only[reBack,aZW,takeIn];refine⟨⟨o',cap,by rw[e1];exact h5,h6,h7,h8,fun blk k1 Sa hb hk=>?_⟩,fun j hj=>?_⟩
      ·rw[aDO _ aOX]at hb;obtain⟨e',k',lC,j',bKS,bKR,o,m,bKQ⟩:=aUH q hq;rw[bKS]at hb;cases hb;cases hk;have aWP:(p :: ps)[j']?=some q.1:=by rw[<-Qd];simp[bKR]
       have bIS:j=j':=by
        have f1:((us.map (·.1)).map gid)[j]?=some q.2:=by rw[Qd,bLV,h1];simp[h4]
        have f2:((us.map (·.1)).map gid)[j']?=some q.2:=by rw[Qd,bLV,aWP];simp[h4]
        have f3:(us.map (·.1)).map gid=us.map (·.2):=by
         rw[List.map_map];exact bNH fun q hq=>(aDY q hq).2
        have aTR:nodup ((us.map (·.2)).map fun x=>x)=true:=by rw[List.map_id'];exact aOH
        rw[f3]at f1 f2;exact Cg aTR f1 f2 rfl
       subst bIS;rw[bKQ]at h2;cases h2;exact⟨h9,bFE,by rw[e1];exact bKT⟩
      ·simp only[refsV,refsL,bMI]at hj;subst hj;exact .inl aOX
    have Dr:(takeAll keep id Md).1.length=vF.length:=by rw[wB,aLX];exact aZZ
    have hval:∀(i:Nat) (y:V) (v:Value),(takeAll keep id Md).1[i]?=some y->vF[i]?=some v->Bf ρ2 tA (XO X ρ2 tA) w' y v/\∀j∈refsV y,mB al id j:=by
     intro i y v hy hv;obtain⟨d,Ds⟩:=bA (l:=Bw) (i:=i) (by have:=aR hv;omega);rw[wC keep Md id i (reBack us d) (by rw[aDP,bLV,Ds];rfl)]at hy;cases hy;exact Tm i d v Ds hv
    have pS:∀(y:A),vD ρ2 tA (XO X ρ2 tA) w' y (resV vF)->(∀j∈refs y,mB al id j)->some (y,ub ++ (takeAll keep id Md).2)=some (x,u)->next (a.put o.dst (resV vF)) w':=by
     intro y hy aYN heq;obtain⟨e1,e2⟩:=Prod.mk.inj (Option.some.inj heq);refine hn ρ2 (resV vF) w' ?_;rw[<-e1,<-e2,jB,<-aOM,<-My];exact Tl.pure hd hy aYN
    match aYT:vF,Dr,hval,pS with
    | [v],Dr,hval,pS =>
     match ht:(takeAll keep id Md).1,Dr with
     | [y],_ =>
      rw[ht]at he hval;obtain⟨h1,h2⟩:=hval 0 y v rfl rfl;exact pS (.v y) h1 h2 he
    | [],Dr,hval,pS =>
     match ht:(takeAll keep id Md).1,Dr with
     | [],_ =>
      rw[ht]at he;exact pS (.Ix []) ⟨#[],rfl,rfl,fun i y v hy=>by simp at hy⟩ (by simp[refs]) he
    |v1 :: v2 :: vr,Dr,hval,pS =>
     match ht:(takeAll keep id Md).1,Dr with
     |y1 :: y2 :: yr,Dr =>
      rw[ht]at he hval;refine pS (.Ix (y1 :: y2 :: yr)) ⟨(v1 :: v2 :: vr).toArray,rfl,by simpa using Dr,fun i y v hy hv=>(hval i y v hy (by simpa using hv)).1⟩ ?_ he;intro j hj;obtain⟨y,hy,hj⟩:=List.mem_flatMap.1 hj;obtain⟨i,hi⟩:=bMP hy;obtain⟨v,hv⟩:=bA (l:=v1 :: v2 :: vr) (i:=i) (by have:=aR hi;omega);exact(hval i y v hi hv).2 j hj
theorem aFD(h:gV E X w0 ρ al fr hp a w)(hd:gY E.nt o=true)(hC:iS P E)(tM:∀j,j<8->¬al (id+j)){fo:Operand}{args:Array Operand}{uC:Array TypeId}(ho:o.op=.call ⟨.value fo,args,uC⟩)(he:oR E id o (evA E fr) hp=some (x,u)):Ob P E X w0 al fr hp a w o id x u:=by
 obtain⟨args⟩:=args;unfold oR effK at he;rw[ho]at he;simp only at he;split at he
 case h_2=>cases he
 rename_i f aWS;have hf:a.eval fo=.func (.func f) #[] #[]:=by
  have hz:=(h.ev fo).1;unfold funOf at aWS;split at aWS
  ·rename_i f' gR;cases aWS;rw[gR]at hz;exact hz.1
  ·cases aWS
 split at he
 ·rename_i gx vs aUW;obtain⟨bJB,he⟩:=Hk he;exact(aKA h hd hC hf ho aUW bJB he).step
 split at he
 case h_2=>exact eff_callIO h hd hC tM hf ho ‹_› he
 rename_i aZU;simp only[callK,Aa]at he;generalize keepOf E o=keep at he;split at he
 ·cases he
 ·rename_i ds aQZ;split at he
  ·cases he
  ·rename_i gd rs aTH;obtain⟨aQW,he⟩:=Hk he;cases Qi:bLU rs.length 8 with
   |false=>rw[Qi]at he;cases he
   |true =>
   rw[Qi]at he;simp only[cond_true]at he;have Qi:rs.length<=8:=bNP Qi;obtain⟨aEB,aEE⟩:=hC.c f ds gd rs aZU aTH aQW;obtain⟨U,hU⟩:∃U,U=Uo (args.map (evA E fr)):=⟨_,rfl⟩;have aHR:Cons U:=by rw[hU];exact Rj _
   have hY:∀b,XO X ρ (applyUps U hp) b->b<w.heap.size:=by
    rintro b (hb |⟨i,bl,h1,h2⟩)
    ·have:=Old.Ps (h.x0 b hb);have:=h.below.size;omega
    ·have:=h.gX (fL aHR h1);omega
   have hG:GlobOk E.glob (XO X ρ (applyUps U hp)) w:=by
    intro g k ns hg;obtain⟨h1,h2,h3⟩:=h.Nc g k ns hg;exact⟨h1,fun ho=>h2 (ho.imp (fun h=>h) (aHU.of_cons aHR)),h3.later (fV.cons aHR)⟩
   have aMA:ds.length=args.length:=by have:=wL aQZ;simpa using this
   have aED:=aEB (XO X ρ (applyUps U hp)) w (args.map a.eval) hY hG (by simp[aMA]) (fun i d v hi hv=>by
    obtain⟨y,aDK,aNX⟩:=Px aQZ i d hi;simp only[bLV,bMV]at aDK hv;obtain⟨z,hz,rfl⟩:=aDK;obtain⟨z',aSR,rfl⟩:=hv;rw[hz]at aSR;cases aSR;have gR:=h.ev z;refine Br h aHR gR.1 (fun i hi=>?_) aNX;rw[hU];exact Te (List.mem_map.2 ⟨z,bMA hz,rfl⟩) hi)
   have eZ:(execOp a.eval o).run P w=.ok (.enter f (args.map a.eval).toArray) w:=by
    unfold execOp;rw[ho];simp only[resolve,hf,Deferred.ofValue,Sem.run_bind,Sem.run_pure,Result.andThen_ok,invoke];rw[<-aEE];congr 1;simp
   intro next Q hn;unfold Oper.wp;rw[eZ];simp only[Oper.upon_enter];refine aED.mono ?_;rintro e w' ⟨vF,rfl,aOZ,g,aZZ,aDX,aUK⟩;simp only;obtain⟨U',bKF,bKB⟩:∃U',Cons U'/\(bif rs.any shares then(List.flatMap refs (args.map (evA E fr))).map fun i=>((i,none):Nat×Option iM)else [])=U'/\(∀i,i∈U'.map (·.1)->i∈U.map (·.1)):=by
    cases aZC:rs.any shares with
    |true=>exact⟨U,aHR,by rw[hU];rfl,fun _ h=>h⟩
    |false=>exact⟨[],(fun p hp=>by cases hp),rfl,fun i hi=>by cases hi⟩
   obtain⟨aOY,hUsub⟩:=bKB;rw[aOY]at he;have h0:=h.cons bKF;obtain⟨tA,My⟩:∃tA,tA=applyUps (takeAll keep id rs).2 (applyUps U' hp):=⟨_,rfl⟩;obtain⟨ρ2,Ao⟩:∃ρ2:Nat->Nat,ρ2=fun j=>if id<=j/\j<id+8 then g (j-id)else ρ j:=⟨_,rfl⟩
   have vU:∀i,al i->¬(id<=i/\i<id+8):=fun i hi hr=>tM (i-id) (by omega) (by rw[show id+(i-id)=i by omega];exact hi)
   have rN:∀j,tA j=match (if id<=j then rs[j-id]? else none)with
     |some (.own e k ns)=>if keep=true then some ⟨e,.ints k ns⟩else applyUps U' hp j
     |_=>applyUps U' hp j:=fun j=>by rw[My];exact takeAll_ups keep rs id _ j
   have Qf:∀j,¬al j->applyUps U' hp j=none:=by
    intro j hj;cases hq:applyUps U' hp j with
    |none=>rfl
    |some b=>exact absurd (h0.alh j b hq) hj
   have pP:∀j b,tA j=some b->¬al j->∃e k ns,id<=j/\rs[j-id]?=some (.own e k ns)/\keep=true/\b=⟨e,.ints k ns⟩:=by
    intro j b hj oZ;rw[rN]at hj;split at hj
    ·rename_i e k ns hq;split at hj
     ·rename_i hk;cases hj;split at hq
      ·exact⟨e,k,ns,‹_›,hq,hk,rfl⟩
      ·cases hq
     ·rw[Qf j oZ]at hj;cases hj
    ·rw[Qf j oZ]at hj;cases hj
   have Nb:=h0.called (ρ':=ρ2) (hp':=tA) (al':=mB al id) aOZ (fun _ h=>.inl h)
    (fun i hi=>by
     refine⟨by rw[Ao];simp only;rw[if_neg (vU i hi)],?_⟩;rw[rN];split
     ·rename_i e k ns hq;split at hq
      ·exact absurd ⟨‹_›,by have:=aR hq;omega⟩ (vU i hi)
      ·cases hq
     ·rfl)
    (fun j b hj oZ=>by
     obtain⟨e,k,ns,h1,h2,h3,rfl⟩:=pP j b hj oZ;have iN:=aR h2;obtain⟨v,hv⟩:=bA (l:=vF) (i:=j-id) (by omega);obtain⟨arr,cap,_,yL,hw,h4,aPA,h5,h6⟩:=aUK (j-id) _ v h2 hv;have e1:ρ2 j=g (j-id):=by rw[Ao];simp only;rw[if_pos ⟨h1,by omega⟩]
     exact⟨.inr ⟨h1,by omega⟩,by rw[e1];exact yL,fun Y=>⟨arr,by rw[e1];exact hw,bMN h4 aPA,h6⟩⟩)
    (fun i j b c hi hj bAW bAV e=>by
     obtain⟨e1,k1,Sa,h1,h2,h3,_⟩:=pP i b hi bAW;obtain⟨e2,k2,bGS,h4,h5,h6,_⟩:=pP j c hj bAV;have l1:=aR h2;have l2:=aR h5;rw[Ao]at e;simp only at e;rw[if_pos ⟨h1,by omega⟩,if_pos ⟨h4,by omega⟩]at e;have:=aDX _ _ _ _ h2 h5 rfl rfl e;omega)
   obtain⟨Tl,aZR⟩:=Nb;have aOT:∀{i:Nat} (d:D) (v:Value),rs[i]?=some d->iU d=false->lL (fun b=>XO X ρ (applyUps U hp) b\/∃(j:Nat) (d':D),rs[j]?=some d'/\iU d'=true/\g j=b) w' d v->lL (XO X ρ2 tA) w' d v:=by
    intro i d v hi ho hr;cases aZC:shares d with
    |false=>exact hr.any aZC ho
    |true =>
     have Ap:rs.any shares=true:=List.any_eq_true.2 ⟨d,bMA hi,aZC⟩;have bKD:U'=U:=by
      rw[Ap]at aOY;rw[<-aOY,hU];rfl
     refine hr.later ⟨bLR _,fun b _ hx=>⟨rfl,fun hb=>hx ?_⟩⟩;rcases hb with hb |⟨j,bl,h7,h8⟩
     ·exact .inl (.inl hb)
     ·by_cases Jm:al j
      ·have h9:applyUps U' hp j=some bl:=by
        rw[<-h7,rN];split
        ·rename_i e k ns hq;split at hq
         ·exact absurd ⟨‹_›,by have:=aR hq;omega⟩ (vU j Jm)
         ·cases hq
        ·rfl
       have e2:ρ2 j=ρ j:=by rw[Ao];simp only;rw[if_neg (vU j Jm)]
       exact .inl (.inr ⟨j,bl,by rw[<-bKD];exact h9,by rw[<-e2];exact h8⟩)
      ·obtain⟨e,k,ns,h1,h2,h3,rfl⟩:=pP j bl h7 Jm;have iN:=aR h2;refine .inr ⟨j-id,_,h2,rfl,?_⟩;rw[Ao]at h8;simp only at h8;rw[if_pos ⟨h1,by omega⟩]at h8;exact h8
   have Tm:∀(i:Nat) (d:D) (v:Value),rs[i]?=some d->vF[i]?=some v->Bf ρ2 tA (XO X ρ2 tA) w' (takeIn keep (id+i) d).1 v/\∀j∈refsV (takeIn keep (id+i) d).1,mB al id j:=by
    intro i d v hi hv;have hg:=aUK i d v hi hv;have bIX:=aR hi;cases d with
    |own e k ns =>
     obtain⟨arr,cap,rfl,yL,hw,h4,aPA,h5,h6⟩:=hg;have aZK:¬X (g i):=fun hx=>by have:=Old.Ps (h.x0 _ hx);have:=h.below.size;omega
     cases keep with
     |true =>
      have e1:ρ2 (id+i)=g i:=by rw[Ao];simp only;rw[if_pos ⟨by omega,by omega⟩];congr 1;omega
      refine⟨⟨cap,by rw[e1],h4,fun blk k1 Sa hb hk=>?_,fun blk cs hb hk=>?_⟩,fun j hj=>?_⟩
      rotate_left
      ·rw[rN,aU,show id+i-id=i by omega,hi]at hb;simp only[if_true]at hb;cases hb;cases hk
      rotate_left
      ·rw[rN,aU,show id+i-id=i by omega,hi]at hb;simp only[if_true]at hb;cases hb;cases hk;exact⟨rfl,h5,by rw[e1];unfold jM;rw[hw];exact aPA⟩
      ·simp only[takeIn,cond_true,refsV,refsL,bMI]at hj;subst hj;exact .inr ⟨by omega,by omega⟩
     |false =>
      refine⟨⟨_,cap,rfl,h4,fun j n hj=>⟨g i,0,rfl,(Array.getElem?_eq_some_iff.1 hw).1,?_,?_⟩⟩,fun j hj=>by simp[takeIn,refsV,refsL]at hj⟩
      ·rintro (hx |⟨j',bl,h7,h8⟩)
       ·exact aZK hx
       ·by_cases Jm:al j'
        ·have:tA j'=applyUps U' hp j':=by
          rw[rN];split
          ·simp
          ·rfl
         rw[this]at h7;have:=h0.gX h7;have e2:ρ2 j'=ρ j':=by rw[Ao];simp only;rw[if_neg (vU j' Jm)]
         omega
        ·obtain⟨_,_,_,_,_,hk,_⟩:=pP j' bl h7 Jm;cases hk
      ·rw[bLT,cell_of_row w' (g i) j arr e (0,0) hw];exact h6 j n hj
    |s x=>exact⟨aOT _ v hi rfl hg,fun j hj=>by simp[takeIn,refsV,refsL]at hj⟩
    |rows sz n f=>exact⟨aOT _ v hi rfl hg,fun j hj=>by simp[takeIn,refsV,refsL]at hj⟩
    |agg cs=>exact⟨aOT _ v hi rfl hg,fun j hj=>by simp[takeIn,refsV]at hj⟩
    |io=>exact hg.elim
    |back=>exact hg.elim
   have Dr:(takeAll keep id rs).1.length=vF.length:=by rw[wB];exact aZZ
   have hval:∀(i:Nat) (y:V) (v:Value),(takeAll keep id rs).1[i]?=some y->vF[i]?=some v->Bf ρ2 tA (XO X ρ2 tA) w' y v/\∀j∈refsV y,mB al id j:=by
    intro i y v hy hv;obtain⟨d,Ds⟩:=bA (l:=rs) (i:=i) (by have:=aR hv;omega);rw[wC keep rs id i d Ds]at hy;cases hy;exact Tm i d v Ds hv
   have pS:∀(y:A),vD ρ2 tA (XO X ρ2 tA) w' y (resV vF)->(∀j∈refs y,mB al id j)->some (y,U' ++ (takeAll keep id rs).2)=some (x,u)->next (a.put o.dst (resV vF)) w':=by
    intro y hy aYN heq;obtain⟨e1,e2⟩:=Prod.mk.inj (Option.some.inj heq);refine hn ρ2 (resV vF) w' ?_;rw[<-e1,<-e2,jB,<-My];exact Tl.pure hd hy aYN
   match aYT:vF,Dr,hval,pS with
   | [v],Dr,hval,pS =>
    match ht:(takeAll keep id rs).1,Dr with
    | [y],_ =>
     rw[ht]at he hval;obtain⟨h1,h2⟩:=hval 0 y v rfl rfl;exact pS (.v y) h1 h2 he
   | [],Dr,hval,pS =>
    match ht:(takeAll keep id rs).1,Dr with
    | [],_ =>
     rw[ht]at he;exact pS (.Ix []) ⟨#[],rfl,rfl,fun i y v hy=>by simp at hy⟩ (by simp[refs]) he
   |v1 :: v2 :: vr,Dr,hval,pS =>
    match ht:(takeAll keep id rs).1,Dr with
    |y1 :: y2 :: yr,Dr =>
     rw[ht]at he hval;refine pS (.Ix (y1 :: y2 :: yr)) ⟨(v1 :: v2 :: vr).toArray,rfl,by simpa using Dr,fun i y v hy hv=>(hval i y v hy (by simpa using hv)).1⟩ ?_ he;intro j hj;obtain⟨y,hy,hj⟩:=List.mem_flatMap.1 hj;obtain⟨i,hi⟩:=bMP hy;obtain⟨v,hv⟩:=bA (l:=v1 :: v2 :: vr) (i:=i) (by have:=aR hi;omega);exact(hval i y v hi hv).2 j hj
theorem So(h:gV E X w0 ρ al fr hp a w)(hd:gY E.nt o=true)(hT:mH P E.T)(hC:iS P E)(tM:∀j,j<8->¬al (id+j))(he:oR E id o (evA E fr) hp=some (x,u)):Ob P E X w0 al fr hp a w o id x u:=by
 have yI:=he;unfold oR effK at he;split at he
 ·exact(Qw h hd (.inl ‹_›) yI).step
 ·exact(Qw h hd (.inr ‹_›) yI).step
 ·exact(aFA h hd ‹_› yI).step
 ·exact(Zv h hd hT tM ‹_› yI).step
 ·exact(aKB h hd tM ‹_› yI).step
 ·exact(Zt h hd hT ‹_› yI).step
 ·exact(Ho h hd hT tM ‹_› yI).step
 ·exact(aFB h hd hT ‹_› yI).step
 ·exact(Zp h hd hT ‹_› yI).step
 ·exact(Zu h hd hT ‹_› yI).step
 ·exact(aEZ h hd ‹_› yI).step
 ·exact(Qy h hd hT ‹_› yI).step
 ·exact(Jq h hd hT tM ‹_› yI).step
 ·exact(Zq h hd hT ‹_› yI).step
 ·exact(Js h hd hT ‹_› yI).step
 ·exact(Zs h hd hT ‹_› yI).step
 ·exact(Jr h hd hT ‹_› yI).step
 ·exact(Zr h hd hT ‹_› yI).step
 ·exact(Qx h hd ‹_› yI).step
 ·exact aFD h hd hC tM ‹_› yI
 ·rename_i b args uC ho;have hb:=he;unfold builtinK at hb;split at hb
  ·exact(aJZ h hd hT ho yI).step
  ·exact(Hn h hd (.inl rfl) ho yI).step
  ·exact(Hn h hd (.inr rfl) ho yI).step
  ·exact(Ua h hd hT tM ho yI).step
  ·exact(aFC h hd hT ho yI).step
  ·cases hb
 ·cases he
end
end AI
namespace AI
open Go Go.RowKit
section
variable {hp hp':Nat->Option iM}
theorem wX{x:A}(h:∀i∈refs x,hp i=hp' i):cellsOf hp x=cellsOf hp' x:=by
 unfold cellsOf;split
 ·rfl
 ·rfl
 ·rw[h _ (by simp[refs,refsV,refsL])]
 ·rw[h _ (by simp[refs,refsV,refsL])]
 ·rfl
theorem Vm{x:A}(h:∀i∈refs x,hp i=hp' i):toD hp x=toD hp' x:=by
 unfold toD;split
 ·rfl
 ·rfl
 ·rfl
 ·rw[h _ (by simp[refs,refsV,refsL])]
 ·rw[h _ (by simp[refs,refsV,refsL])]
 ·rfl
theorem Ha{k:IntKind}{x:A}(h:∀i∈refs x,hp i=hp' i):intsOf hp k x=intsOf hp' k x:=by
 unfold intsOf;split
 ·rfl
 ·rfl
 ·rw[h _ (by simp[refs,refsV,refsL])]
 ·rw[h _ (by simp[refs,refsV,refsL])]
 ·rfl
theorem An{R:Type}{t:TI}{nQ:Nat}{x:A}{n:Int}{K:A->Option R}(h:∀i∈refs x,hp i=hp' i):idxK hp t nQ x n K=idxK hp' t nQ x n K:=by
 unfold idxK;split
 ·rfl
 ·rw[h _ (by simp[refs,refsV,refsL])]
 ·rw[h _ (by simp[refs,refsV,refsL])]
 ·rfl
 ·rfl
 ·rfl
 ·rfl
theorem aDI{R:Type}{sh:Bool}{t:TI}{nQ:Nat}{x:A}{n:Int}{K:A->Option R}(h:∀i∈refs x,hp i=hp' i):idxS sh hp t nQ x n K=idxS sh hp' t nQ x n K:=by
 unfold idxS;split
 ·rw[h _ (by simp[refs,refsV,refsL])];simp only[An h]
 ·exact An h
theorem Mp{xs:List A}(h:∀x∈xs,∀i∈refs x,hp i=hp' i):xs.mapM (toD hp)=xs.mapM (toD hp'):=by
 induction xs with
 |nil=>rfl
 |cons x xs ih=>rw[bMY,bMY,Vm (h x (by simp)),ih (fun y hy=>h y (by simp[hy]))]
theorem Cp{R:Type}{place:Nat->Option (Nat×Nat)}{ev Jo:Operand->A}{parts:List (Nat×Operand)}{cs:List S}{u:nV}{K:List S->nV->Option R}
  (he:∀p∈parts,ev p.2=Jo p.2) (h:∀p∈parts,∀i∈refs (ev p.2),hp i=hp' i):fillK hp place ev parts cs u K=fillK hp' place Jo parts cs u K:=by
 induction parts generalizing cs u with
 |nil=>rfl
 |cons p rest ih =>
  obtain⟨i,y⟩:=p;have e1:ev y=Jo y:=he (i,y) (by simp);have e2:cellsOf hp (ev y)=cellsOf hp' (Jo y):=by rw[wX (h (i,y) (by simp)),e1]
  simp only[fillK,e2];split
  ·split
   ·exact ih (fun p hp=>he p (by simp[hp])) (fun p hp=>h p (by simp[hp]))
   ·rfl
  ·rfl
end
theorem aAA{R:Type}{E:Env}{id:Nat}{keep:Bool}{f:FuncId}{args:List A}{hp hp':Nat->Option iM}{K:A->nV->Option R}(h:∀x∈args,∀i∈refs x,hp i=hp' i) :
  callK E id keep f args hp K=callK E id keep f args hp' K:=by
 unfold callK;rw[Mp h]
theorem aBL{hp hp':Nat->Option iM}{x:A}(h:∀i∈refs x,hp i=hp' i):toIO hp x=toIO hp' x:=by
 unfold toIO;split
 ·rw[h _ (by simp[refs,refsV,refsL])]
 ·rw[h _ (by simp[refs,refsV,refsL])]
 ·rfl
theorem Hx{hp hp':Nat->Option iM}(ps:List Nat):∀{args:List A} (i:Nat),(∀x∈args,∀i∈refs x,hp i=hp' i)->argsIO ps hp i args=argsIO ps hp' i args
 | [],_,_=>rfl
 |x :: args,i,h=>by
  unfold argsIO;rw[aBL (h x (by simp)),Vm (h x (by simp)),Hx ps (i+1) (fun y hy=>h y (by simp[hy]))]
theorem Uh{R:Type}{E:Env}{ps:List Nat}{id:Nat}{keep:Bool}{f:FuncId}{args:List A}{hp hp':Nat->Option iM}{K:A->nV->Option R}(h:∀x∈args,∀i∈refs x,hp i=hp' i) :
  callIO E ps id keep f args hp K=callIO E ps id keep f args hp' K:=by
 unfold callIO;rw[Hx ps 0 h]
theorem Nx{R:Type}{n0 id:Nat}{e:TypeId}{te:TI}{s x:A}{hp hp':Nat->Option iM}{K:A->nV->Option R}(hs:∀i∈refs s,hp i=hp' i)(hx:∀i∈refs x,hp i=hp' i) :
  appCells n0 id e te s x hp K=appCells n0 id e te s x hp' K:=by
 unfold appCells;split
 ·rw[hx _ (by simp[refs,refsV,refsL])];split
  ·split
   ·split
    ·rw[hs _ (by simp[refs,refsV,refsL])]
    ·rfl
    ·rfl
   ·rfl
  ·rfl
 ·rfl
theorem Nq{R:Type}{E:Env}{id:Nat}{b:Builtin}{args:List A}{uC:List TypeId}{hp hp':Nat->Option iM}{K:A->nV->Option R}(h:∀x∈args,∀i∈refs x,hp i=hp' i) :
  builtinK E id b args uC hp K=builtinK E id b args uC hp' K:=by
 unfold builtinK;split
 ·rfl
 ·rfl
 ·rfl
 ·rename_i s x t t';split
  ·split
   ·split
    ·split
     ·rw[Ha (h x (by simp))];split
      ·rename_i i n ms hq;rw[h (.v (.one (.buf i n))) (by simp) i (by simp[refs,refsV,refsL])]
      ·rfl
      ·rfl
     ·rfl
    ·exact Nx (h s (by simp)) (h x (by simp))
    ·rfl
   ·rfl
  ·rfl
 ·rename_i d s t t';split
  ·split
   ·rw[Ha (h s (by simp))];split
    ·rename_i i n ms hq;rw[h (.v (.one (.buf i n))) (by simp) i (by simp[refs,refsV,refsL])]
    ·rename_i i off n ms hq;rw[h (.v (.one (.view i off n))) (by simp) i (by simp[refs,refsV,refsL])]
    ·rfl
   ·rfl
  ·rfl
 ·rfl
theorem sU{α β:Type}{f g:α->β}{o:Option α}(h:∀x,o=some x->f x=g x):o.map f=o.map g:=by
 cases o with
 |none=>rfl
 |some x=>simp[h x rfl]
theorem aFE{R:Type}{E:Env}{id:Nat}{o:Oper}{ev Jo:Operand->A}{hp hp':Nat->Option iM}{K:A->nV->Option R}(he:∀x,x∈o.op.operands.toList->ev x=Jo x)(h:∀x,x∈o.op.operands.toList->∀i∈refs (ev x),hp i=hp' i) :
  effK E id o ev hp K=effK E id o Jo hp' K:=by
 unfold effK;split <;> rename_i ho <;> (try rw[ho]at he h)
 ·rw[he _ (by simp[Op.operands])]
 ·rw[he _ (by simp[Op.operands])]
 ·rw[he _ (by simp[Op.operands]),he _ (by simp[Op.operands]),he _ (by simp[Op.operands])]
 ·rw[wX (h _ (by simp[Op.operands])),he _ (by simp[Op.operands])]
 ·have e1:∀p∈(‹Array (Nat×Operand)›).toList,p.2∈(‹Array (Nat×Operand)›).toList.map (·.2):=fun p hp=>List.mem_map.2 ⟨p,hp,rfl⟩
  split
  ·exact Cp (fun p hp=>he _ (by simpa [Op.operands] using e1 p hp)) (fun p hp=>h _ (by simpa [Op.operands] using e1 p hp))
  ·exact Cp (fun p hp=>he _ (by simpa [Op.operands] using e1 p hp)) (fun p hp=>h _ (by simpa [Op.operands] using e1 p hp))
  ·rfl
 ·have e1:∀p∈(‹Array (Nat×Operand)›).toList,p.2∈(‹Array (Nat×Operand)›).toList.map (·.2):=fun p hp=>List.mem_map.2 ⟨p,hp,rfl⟩
  split
  ·split
   ·split
    ·exact Cp (fun p hp=>he _ (by simpa [Op.operands] using e1 p hp)) (fun p hp=>h _ (by simpa [Op.operands] using e1 p hp))
    ·rfl
   ·rfl
  ·rfl
 ·rename_i t y;have e1:ev y=Jo y:=he _ (by simp[Op.operands]);have e2:=h y (by simp[Op.operands]);split
  ·rw[<-e1];split
   ·rename_i i off gR;rw[e2 i (by rw[gR];simp[refs,refsV,refsL])]
   ·rename_i i j gR;rw[e2 i (by rw[gR];simp[refs,refsV,refsL])]
   ·rfl
   ·rfl
  ·rfl
 ·rename_i t y z;have e1:ev y=Jo y:=he _ (by simp[Op.operands]);have e3:ev z=Jo z:=he _ (by simp[Op.operands]);have e2:=h y (by simp[Op.operands]);have e4:cellsOf hp (ev z)=cellsOf hp' (Jo z):=by rw[wX (h z (by simp[Op.operands])),e3]
  split
  ·rw[<-e1,e4,<-e3];split
   ·rename_i i off gR;rw[e2 i (by rw[gR];simp[refs,refsV,refsL])]
   ·rename_i i j gR;rw[e2 i (by rw[gR];simp[refs,refsV,refsL])]
   ·rfl
  ·rfl
 ·rw[he _ (by simp[Op.operands]),he _ (by simp[Op.operands])]
 ·rw[he _ (by simp[Op.operands])]
 ·rw[he _ (by simp[Op.operands])]
 ·rw[he _ (by simp[Op.operands]),he _ (by simp[Op.operands])]
 ·rename_i t y lo hi mx;have e1:ev y=Jo y:=he _ (by simp[Op.operands]);have e2:lo.map ev=lo.map Jo:=sU fun x hx=>he x (by subst hx;simp[Op.operands])
  have e3:hi.map ev=hi.map Jo:=sU fun x hx=>he x (by subst hx;simp[Op.operands])
  have e4:mx.map ev=mx.map Jo:=sU fun x hx=>he x (by subst hx;simp[Op.operands])
  rw[e1,e2,e3,e4]
 ·rw[he _ (by simp[Op.operands])]
 ·rw[he _ (by simp[Op.operands])]
 ·rename_i t y z;have e1:ev y=Jo y:=he _ (by simp[Op.operands]);have e3:ev z=Jo z:=he _ (by simp[Op.operands]);have e2:=h y (by simp[Op.operands]);rw[<-e1,e3];split
  ·split
   ·split
    ·split
     ·rfl
     ·rfl
     ·exact aDI e2
    ·rfl
   ·split
    ·rename_i gR;exact An (by rw[gR]at e2;exact e2)
    ·exact An (by intro i hi;cases hi)
    ·rfl
   ·rfl
  ·rfl
 ·rw[he _ (by simp[Op.operands]),he _ (by simp[Op.operands])]
 ·rw[he _ (by simp[Op.operands])]
 ·rename_i f args uC;have e1:args.toList.map ev=args.toList.map Jo:=bNH fun x hx=>he x (by simp[Op.operands,Call.operands];exact .inr (by simpa using hx))
  have e0:ev f=Jo f:=he f (by simp[Op.operands,Call.operands]);rw[e0,e1];split
  ·split
   ·rfl
   ·have hx:∀x∈args.toList.map Jo,∀i∈refs x,hp i=hp' i:=by
     intro x hx i hi;rw[<-e1]at hx;obtain⟨y,hy,rfl⟩:=List.mem_map.1 hx;exact h y (by simp[Op.operands,Call.operands];exact .inr (by simpa using hy)) i hi
    split
    ·exact aAA hx
    ·exact Uh hx
  ·rfl
 ·rename_i b args uC;have e1:args.toList.map ev=args.toList.map Jo:=bNH fun x hx=>he x (by simpa [Op.operands,Call.operands] using hx)
  rw[e1];refine Nq ?_;intro x hx i hi;rw[<-e1]at hx;obtain⟨y,hy,rfl⟩:=List.mem_map.1 hx;exact h y (by simpa [Op.operands,Call.operands] using hy) i hi
 ·rfl
end AI
namespace AI
open Go Go.RowKit
inductive Gd where
 |run
 |skip
 |bad
def gd(ops:Array Oper)(o:Oper)(fr:Nat->A):Gd :=
 match o.guard with
 |none=>.run
 |some (j,want)=>match (ops[j]?).bind (·.dst)with
  |some d=>match fr d with
   | .v (.one (.s (.sc (.bool b))))=>if b=want then .run else .skip
   | .Ix []=>.skip
   |_=>.bad
  |none=>.bad
structure Dt where
 i:Nat
 o:Oper
 x:A
 u:nV
 t:List Nat
def vO(E:Env)(ops:Array Oper)(base:Nat)(d:Dt)(st eI:St):Prop :=
 ops[d.i]?=some d.o/\gY E.nt d.o=true /\
  ((gd ops d.o st.fr=.run/\oR E (base+8*d.i) d.o (evA E st.fr) st.hp=some (d.x,d.u)/\d.t=qH d.o (evA E st.fr) d.u)\/(gd ops d.o st.fr=.skip/\d.x=.Ix []/\d.u=[]/\d.t=[])) /\
  eI=after d.o st d.x d.u
def vB(E:Env)(ops:Array Oper)(base:Nat):List Dt->St->St->Prop
 | [],st,eI=>st=eI
 |d :: l,st,eI=>∃st1,vO E ops base d st st1/\vB E ops base l st1 eI
def Dt.told(d:Dt):Rec:=⟨d.i,d.o,d.t,d.u.map (·.1)⟩
def zM(ops:Array Oper)(d d':Dt):Prop:=indep ops d.told d'.i d'.o d'.t (d'.u.map (·.1))=true
theorem iH{R:Type}(len:Nat)(lo hi mx:Option A)(K:Nat->Nat->Option R):sliceK len lo hi mx K=(sliceK len lo hi mx fun l h=>some (l,h)).bind fun p=>K p.1 p.2:=by
 unfold sliceK;split
 ·split <;> rfl
 ·split
  ·split <;> rfl
  ·rfl
 ·rfl
theorem Dj{R S:Type}(n:Int)(f:Nat->S)(K:S->Option R):∀m j:Nat,splitN n m j (fun i=>K (f i))=(splitN n m j (fun i=>some (f i))).bind K
 |0,_=>rfl
 |m+1,j=>by
  unfold splitN;cases decide (n=(j:Int))with
  |true=>rfl
  |false=>exact Dj n f K m (j+1)
theorem oG{R:Type}(hp:Nat->Option iM)(t:TI)(nQ:Nat)(x:A)(n:Int)(K:A->Option R):idxK hp t nQ x n K=(idxK hp t nQ x n some).bind K:=by
 unfold idxK;split
 ·split
  ·split <;> rfl
  ·rfl
 ·split
  ·split
   ·split <;> rfl
   ·rfl
  ·split <;> rfl
  ·rfl
 ·split
  ·split
   ·split <;> rfl
   ·rfl
  ·rfl
 ·split
  ·split <;> rfl
  ·rfl
 ·split
  ·rename_i id off x len esz' g hk;cases bLU len 8 with
   |true=>exact Dj n (fun j=>A.v (V.one (L.ptr id (off+j*nQ)))) K len 0
   |false =>
    simp only[cond_false];split <;> rfl
  ·rfl
 ·split
  ·split
   ·split <;> rfl
   ·rfl
  ·rfl
 ·rfl
theorem zX{R S:Type}(n:Int){F:Nat->Option R}{G:Nat->Option S}(K:S->Option R)(h:∀j,F j=(G j).bind K):∀m j:Nat,splitN n m j F=(splitN n m j G).bind K
 |0,_=>rfl
 |m+1,j=>by
  unfold splitN;cases decide (n=(j:Int))with
  |true=>exact h j
  |false=>exact zX n K h m (j+1)
theorem Ks{R:Type}(sh:Bool)(hp:Nat->Option iM)(t:TI)(nQ:Nat)(x:A)(n:Int)(K:A->Option R):idxS sh hp t nQ x n K=(idxS sh hp t nQ x n some).bind K:=by
 unfold idxS;split
 ·split
  ·exact zX n K (fun j=>oG ..) _ 0
  ·exact oG ..
 ·exact oG ..
theorem Ug{R:Type}(E:Env)(id:Nat)(keep:Bool)(f:FuncId)(args:List A)(hp:Nat->Option iM)(K:A->nV->Option R):callK E id keep f args hp K=(callK E id keep f args hp fun a u=>some (a,u)).bind fun p=>K p.1 p.2:=by
 unfold callK;split
 ·rfl
 ·split
  ·rfl
  ·rename_i g rs _;unfold aP;simp only[Aa];split
   ·cases bLU rs.length 8 with
    |false=>rfl
    |true =>
     simp only[cond_true];split <;> rfl
   ·rfl
theorem Rf{R:Type}(E:Env)(ps:List Nat)(id:Nat)(keep:Bool)(f:FuncId)(args:List A)(hp:Nat->Option iM)(K:A->nV->Option R):callIO E ps id keep f args hp K=(callIO E ps id keep f args hp fun a u=>some (a,u)).bind fun p=>K p.1 p.2:=by
 unfold callIO;split
 ·rfl
 ·generalize (leqN _ _&&_)=bb;cases bb with
  |false=>rfl
  |true =>
   simp only[cond_true];split
   ·rfl
   ·unfold aP;simp only[Aa];split
    ·generalize (bLU _ _&&_&&_)=b2;cases b2 with
     |false=>rfl
     |true =>
      simp only[cond_true];split
      ·rfl
      ·split <;> rfl
    ·rfl
theorem Kb{R:Type}(n0 id:Nat)(e:TypeId)(te:TI)(s x:A)(hp:Nat->Option iM)(K:A->nV->Option R):appCells n0 id e te s x hp K=(appCells n0 id e te s x hp fun a u=>some (a,u)).bind fun p=>K p.1 p.2:=by
 unfold appCells;split
 ·split
  ·split
   ·split
    ·split
     ·split <;> rfl
     ·rfl
    ·split <;> rfl
    ·rfl
   ·rfl
  ·rfl
 ·rfl
theorem Jy{R:Type}(E:Env)(id:Nat)(b:Builtin)(args:List A)(uC:List TypeId)(hp:Nat->Option iM)(K:A->nV->Option R):builtinK E id b args uC hp K=(builtinK E id b args uC hp fun a u=>some (a,u)).bind fun p=>K p.1 p.2:=by
 unfold builtinK;split
 ·split <;> rfl
 ·split <;> rfl
 ·split <;> rfl
 ·split
  ·split
   ·split
    ·split
     ·split
      ·split
       ·generalize bMC _ _=bb;cases bb with
        |true=>rfl
        |false =>
         simp only[cond_false];split
         ·split <;> rfl
         ·rfl
       ·rfl
      ·split <;> rfl
      ·rfl
     ·rfl
    ·exact Kb ..
    ·rfl
   ·rfl
  ·rfl
 ·split
  ·split
   ·split
    ·split
     ·split <;> rfl
     ·rfl
    ·split
     ·split <;> rfl
     ·rfl
    ·rfl
   ·rfl
  ·rfl
 ·rfl
theorem mV {R : Type} (E : Env) (id : Nat) (o : Oper) (ev : Operand → A) (hp : Nat → Option iM) (K : A → nV → Option R) : effK E id o ev hp K = (oR E id o ev hp).bind fun p => K p.1 p.2 := by
  unfold oR effK
  split
  · rfl
  · rfl
  · split
    · split
      · rfl
      · rename_i t _ _ _ _; cases t <;> rfl
    · rfl
  · split <;> rfl
  · split
    · split <;> rfl
    · rfl
  · split
    · rw [kD]; conv => rhs; rw [kD]
      rw [bLZ]; rfl
    · rw [kD]; conv => rhs; rw [kD]
      rw [bLZ]; rfl
    · rfl
  · split
    · split
      · split
        · rw [kD]; conv => rhs; rw [kD]
          rw [bLZ]
          congr 1
          funext r
          split
          · split <;> rfl
          · rfl
        · rfl
      · rfl
    · rfl
  · split
    · split
      · split
        · split <;> rfl
        · rfl
      · split <;> rfl
      · split <;> rfl
      · rfl
    · rfl
  · split
    · split
      · split
        · split <;> rfl
        · rfl
      · split
        · split <;> rfl
        · rfl
      · rfl
    · rfl
  · split
    · generalize boolT _ _ = bb
      cases bb with
      | true => simp only [cond_true]; rw [Cv]; conv => rhs; rw [Cv]
                rw [bLZ]; rfl
      | false => rfl
    · split
      · split <;> rfl
      · rfl
    · rfl
  · split
    · rw [Ft]; conv => rhs; rw [Ft]
      rw [bLZ]; rfl
    · rfl
  · split
    · rw [zH]; conv => rhs; rw [zH]
      rw [bLZ]; rfl
    · rfl
  · split
    · split
      · split
        · split <;> rfl
        · rfl
      · rfl
    · rfl
  · split
    · split
      · split
        · split
          · rw [iH]; conv => rhs; rw [iH]
            rw [bLZ]; rfl
          · rfl
        · rw [iH]; conv => rhs; rw [iH]
          rw [bLZ]; rfl
        · rw [iH]; conv => rhs; rw [iH]
          rw [bLZ]; rfl
        · rw [iH]; conv => rhs; rw [iH]
          rw [bLZ]; rfl
        · rfl
      · split
        · split
          · rw [iH]; conv => rhs; rw [iH]
            rw [bLZ]; rfl
          · rfl
        · rfl
      · rfl
    · rfl
  · split
    · split
      · split <;> rfl
      · split <;> rfl
      · rfl
    · rfl
  · split
    · split
      · split <;> rfl
      · rfl
    · rfl
  · split
    · split
      · split
        · split
          · rfl
          · rfl
          · rw [Ks]; conv => rhs; rw [Ks]
            rw [bLZ]; rfl
        · rfl
      · split
        · rw [oG]; conv => rhs; rw [oG]
          rw [bLZ]; rfl
        · rw [oG]; conv => rhs; rw [oG]
          rw [bLZ]; rfl
        · rfl
      · rfl
    · rfl
  · split
    · split
      · split <;> rfl
      · rfl
    · split <;> rfl
    · rfl
  · split
    · split <;> rfl
    · rfl
  · split
    · split
      · unfold aP
        split <;> rfl
      · split
        · exact Ug _ _ _ _ _ _ _
        · exact Rf _ _ _ _ _ _ _ _
    · rfl
  · exact Jy _ _ _ _ _ _ _
  · rfl
theorem Vi(fr:Nat->A)(d:Nat)(b:Bool)(h:fr d=yF (.bool b)):xO fr d (yF (.bool b))=fr:=Oz fr d _ h
theorem Kn{R:Type}(E:Env)(draw:Bool)(ops:Array Oper)(base:Nat)(K:St->Option R)(r:R):∀(l:List Oper) (i:Nat) (mJ:List Rec) (st:St),
  (∀(k:Nat) (o:Oper),l[k]?=some o->ops[i+k]?=some o)->opsK E draw ops base l i mJ st K=some r ->
  ∃ds eI,K eI=some r/\vB E ops base ds st eI/\ds.map (·.i)=List.range' i l.length /\
   (draw=true->(∀rc∈mJ,∀d∈ds,indep ops rc d.i d.o d.t (d.u.map (·.1))=true)/\bNQ (zM ops) ds/\∀d∈ds,uU d.i d.o=true)
 | [],i,mJ,st,_,h=>⟨[],st,h,rfl,rfl,fun _=>⟨fun _ _ _ hd=>(by cases hd),List.Pairwise.nil,fun _ hd=>(by cases hd)⟩⟩
 |o :: l,i,mJ,st,hl,h=>by
  have hi:ops[i]?=some o:=by simpa using hl 0 o rfl
  have aWQ:∀(k:Nat) (o':Oper),l[k]?=some o'->ops[i+1+k]?=some o':=fun k o' hk=>by have:=hl (k+1) o' (by simpa using hk);rwa [show i+(k+1)=i+1+k by omega]at this
  unfold opsK at h;cases bAG:gY E.nt o&&(!draw||uU i o)with
  |false=>rw[bAG]at h;cases h
  |true =>
   rw[bAG]at h;simp only[cond_true]at h;obtain⟨Zf,aWU⟩:=(bLX _ _).mp bAG;have go:∀(x:A) (u:nV) (t:List Nat),vO E ops base ⟨i,o,x,u,t⟩ st (after o st x u) ->
     (bif !draw||mJ.all fun r=>indep ops r i o t (u.map (·.1))then opsK E draw ops base l (i+1) (⟨i,o,t,u.map (·.1)⟩ :: mJ) (after o st x u) K else none)=some r ->
     ∃ds eI,K eI=some r/\vB E ops base ds st eI/\ds.map (·.i)=List.range' i (o :: l).length /\
      (draw=true->(∀rc∈mJ,∀d∈ds,indep ops rc d.i d.o d.t (d.u.map (·.1))=true)/\bNQ (zM ops) ds/\∀d∈ds,uU d.i d.o=true):=by
    intro x u t hs hk;cases hc:!draw||mJ.all fun r=>indep ops r i o t (u.map (·.1))with
    |false=>rw[hc]at hk;cases hk
    |true =>
     rw[hc]at hk;simp only[cond_true]at hk;obtain⟨ds,eI,h1,h2,h3,h4⟩:=Kn E draw ops base K r l (i+1) _ _ aWQ hk;refine⟨⟨i,o,x,u,t⟩ :: ds,eI,h1,⟨_,hs,h2⟩,by simp[h3,List.range'_succ],fun aHP=>?_⟩;obtain⟨h5,h6,h7⟩:=h4 aHP;subst aHP;simp only[bNR,bNS]at hc aWU;refine⟨fun rc bDV d hd=>?_,List.pairwise_cons.2 ⟨fun d hd=>(show indep ops ⟨i,o,t,u.map (·.1)⟩ d.i d.o d.t (d.u.map (·.1))=true from h5 _ (bLY ..) d hd),h6⟩,fun d hd=>?_⟩
     ·rcases List.mem_cons.1 hd with rfl |hd
      ·exact List.all_eq_true.1 hc rc bDV
      ·exact h5 rc (by simp[bDV]) d hd
     ·rcases List.mem_cons.1 hd with rfl |hd
      ·exact aWU
      ·exact h7 d hd
   split at h
   ·rename_i hg;rw[mV]at h;obtain⟨⟨x,u⟩,he,h⟩:=Option.bind_eq_some_iff.1 h;exact go x u _ ⟨hi,Zf,.inl ⟨by unfold gd;rw[hg],he,rfl⟩,rfl⟩ h
   ·rename_i j want hg;split at h
    ·rename_i d hd;split at h
     ·rename_i b hb;have e0:xO st.fr d (yF (.bool b))=st.fr:=Vi st.fr d b hb;have aQW:∀w,(b==want)=w->gd ops o st.fr=if w=true then .run else .skip:=by
       intro w hw;unfold gd;rw[hg];simp only[hd,hb];subst hw
       by_cases aJO:b=want <;> simp[aJO]
      have key:(bif b==want then
        effK E (base+8*i) o (evA E st.fr) st.hp fun a u =>
         bif !draw||mJ.all fun r=>indep ops r i o (qH o (evA E st.fr) u) (u.map (·.1))then opsK E draw ops base l (i+1) (⟨i,o,qH o (evA E st.fr) u,u.map (·.1)⟩ :: mJ) (after o st a u) K else none
       else bif !draw||mJ.all fun r=>indep ops r i o [] []then opsK E draw ops base l (i+1) (⟨i,o,[],[]⟩ :: mJ) (after o st (.Ix []) []) K else none)=some r:=by
       cases b
       ·simp only[cond_false,e0]at h;exact h
       ·simp only[cond_true,e0]at h;exact h
      cases aJO:b==want with
      |true =>
       rw[aJO]at key;simp only[cond_true]at key;rw[mV]at key;obtain⟨⟨x,u⟩,he,key⟩:=Option.bind_eq_some_iff.1 key;exact go x u _ ⟨hi,Zf,.inl ⟨by rw[aQW true aJO];rfl,he,rfl⟩,rfl⟩ key
      |false =>
       rw[aJO]at key;simp only[cond_false]at key;exact go (.Ix []) [] [] ⟨hi,Zf,.inr ⟨by rw[aQW false aJO];rfl,rfl,rfl,rfl⟩,rfl⟩ key
     ·rename_i hb;exact go (.Ix []) [] [] ⟨hi,Zf,.inr ⟨by unfold gd;rw[hg];simp only[hd,hb],rfl,rfl,rfl⟩,rfl⟩ h
     ·cases h
    ·cases h
end AI
namespace AI
open Go Go.RowKit
theorem xX{xs ys:List Nat}(h:Ju xs ys=true){i:Nat}(hx:i∈xs):i ∉ ys:=by
 intro hy;have:=List.all_eq_true.1 h i hx;simp at this;exact this hy
theorem gE{u:nV}{hp:Nat->Option iM}{i:Nat}(h:i ∉ u.map (·.1)):applyUps u hp i=hp i:=by
 induction u generalizing hp with
 |nil=>rfl
 |cons p u ih =>
  obtain⟨j,b⟩:=p;simp only[bLQ,bMX,not_or]at h;rw[applyUps,ih h.2,eF _ _ h.1]
theorem yO{u:nV}{hp hp':Nat->Option iM}{i:Nat}(h:i∈u.map (·.1)):applyUps u hp i=applyUps u hp' i:=by
 induction u generalizing hp hp' with
 |nil=>cases h
 |cons p u ih =>
  obtain⟨j,b⟩:=p;simp only[applyUps]
  by_cases hi:i∈u.map (·.1)
  ·exact ih hi
  ·have e:i=j:=by simpa [hi] using h
   subst e;rw[gE hi,gE hi,bG,bG]
theorem Ka{u v:nV}{hp:Nat->Option iM}(h:Ju (u.map (·.1)) (v.map (·.1))=true):applyUps u (applyUps v hp)=applyUps v (applyUps u hp):=by
 funext i
 by_cases hu:i∈u.map (·.1)
 ·have hv:i ∉ v.map (·.1):=xX h hu;rw[gE hv];exact yO hu
 ·rw[gE hu]
  by_cases hv:i∈v.map (·.1)
  ·exact yO hv
  ·rw[gE hv,gE hv,gE hu]
theorem aIR{o:Oper}{x:A}{fr:Nat->A}{t:Nat}(h:o.dst≠some t):yZ o x fr t=fr t:=by
 unfold yZ;cases hd:o.dst with
 |some d=>exact eF _ _ (fun e=>h (by rw[hd,e]))
 |none=>rfl
theorem Yo{o o':Oper}{x x':A}{fr:Nat->A}(h:∀d,o.dst=some d->o'.dst≠some d):yZ o x (yZ o' x' fr)=yZ o' x' (yZ o x fr):=by
 unfold yZ;cases hd:o.dst with
 |none=>rfl
 |some d =>
  cases Ds:o'.dst with
  |none=>rfl
  |some d' =>
   have Dq:d≠d':=fun e=>h d hd (by rw[Ds,e])
   funext t;simp only
   by_cases h1:t=d
   ·subst h1;rw[bG,eF _ _ Dq,bG]
   ·rw[eF _ _ h1]
    by_cases h2:t=d'
    ·subst h2;rw[bG,bG]
    ·rw[eF _ _ h2,eF _ _ h2,eF _ _ h1]
def aQK(ops:Array Oper)(p q:Dt):Prop:=p.o.apart ops q.o=true/\Ju (p.u.map (·.1)) q.t=true/\Ju (q.u.map (·.1)) p.t=true
theorem aQK.symm{ops:Array Oper}{p q:Dt}(h:aQK ops p q):aQK ops q p:=by
 refine⟨?_,h.2.2,h.2.1⟩;obtain⟨h1,h2,h3⟩:=Oper.apart_spec h.1;unfold Oper.apart;rw[bLX];constructor
 ·cases hq:q.o.dst with
  |none=>rfl
  |some d =>
   simp only[bLX,bMZ,bne_iff_ne,ne_eq];refine⟨by simpa using h3 d hq,fun hp=>?_⟩;exact h2 d hp hq
 ·cases hp:p.o.dst with
  |none=>rfl
  |some d=>simpa using h1 d hp
section
variable {E:Env} {ops:Array Oper} {base:Nat}
theorem Mo{o:Oper}{t:Tmp}(h:Operand.tmp t∈o.op.operands.toList):t∈o.looksAt ops:=by
 unfold Oper.looksAt;exact List.mem_append.2 (.inl (List.mem_filterMap.2 ⟨_,h,rfl⟩))
theorem aES{fr aRG:Nat->A}{o:Oper}(h:∀t,t∈o.looksAt ops->fr t=aRG t){x:Operand}(hx:x∈o.op.operands.toList):evA E fr x=evA E aRG x:=by
 cases x with
 |tmp t=>exact h t (Mo hx)
 |_=>rfl
theorem Xj{fr aRG:Nat->A}{o:Oper}(h:∀t,t∈o.looksAt ops->fr t=aRG t):gd ops o fr=gd ops o aRG:=by
 unfold gd;cases hg:o.guard with
 |none=>rfl
 |some p =>
  obtain⟨j,want⟩:=p;simp only;cases hd:(ops[j]?).bind (·.dst)with
  |none=>rfl
  |some d =>
   have:fr d=aRG d:=h d (by
    unfold Oper.looksAt;rw[hg];exact List.mem_append.2 (.inr (by simp[hd])))
   simp only[this]
theorem vO.same{p:Dt}{st st1:St}(aQX:∀t,t∈p.o.looksAt ops->st.fr t=st1.fr t)(Qk:∀i,i∈p.t->st.hp i=st1.hp i){aWC:St}(h:vO E ops base p st1 aWC):vO E ops base p st (after p.o st p.x p.u):=by
 obtain⟨h1,h2,h3,_⟩:=h;refine⟨h1,h2,?_,rfl⟩;rcases h3 with ⟨hg,he,ht⟩ |⟨hg,hx,hu,ht⟩
 ·have gR:∀x,x∈p.o.op.operands.toList->evA E st1.fr x=evA E st.fr x:=fun x hx=>(aES (ops:=ops) aQX hx).symm
  refine .inl ⟨by rw[Xj (ops:=ops) aQX];exact hg,?_,?_⟩
  ·rw[<-he];exact(aFE gR (fun x hx i hi=>(Qk i (by rw[ht];exact List.mem_append.2 (.inl (List.mem_flatMap.2 ⟨x,hx,hi⟩)))).symm)).symm
  ·rw[ht];unfold qH;congr 1;rw[bOM,bOM];congr 1;exact bNH fun x hx=>by rw[gR x hx]
 ·exact .inr ⟨by rw[Xj (ops:=ops) aQX];exact hg,hx,hu,ht⟩
theorem yP{q:Dt}{st:St}{o:Oper}(h:∀d,q.o.dst=some d->d ∉ o.looksAt ops):∀t,t∈o.looksAt ops->st.fr t=(after q.o st q.x q.u).fr t:=by
 intro t ht;exact(aIR (fun e=>h t e ht)).symm
theorem aBE{p:Dt}{st eI:St}(h:vO E ops base p st eI):∀i,i∈p.u.map (·.1)->i∈p.t:=by
 intro i hi;obtain⟨_,_,h3,_⟩:=h;rcases h3 with ⟨_,_,ht⟩ |⟨_,_,hu,_⟩
 ·rw[ht];exact List.mem_append.2 (.inr hi)
 ·rw[hu]at hi;cases hi
theorem vB.swap{p q:Dt}{l:List Dt}{st aRX:St}(hi:aQK ops q p)(h:vB E ops base (q :: p :: l) st aRX):vB E ops base (p :: q :: l) st aRX:=by
 obtain⟨st1,hq,aWC,hp,hl⟩:=h;obtain⟨a1,a2,a3⟩:=Oper.apart_spec hi.1;have e1:st1=after q.o st q.x q.u:=hq.2.2.2;have e2:aWC=after p.o st1 p.x p.u:=hp.2.2.2;have hp':vO E ops base p st (after p.o st p.x p.u):=by
  refine vO.same (st1:=st1) ?_ ?_ hp
  ·rw[e1];exact yP a1
  ·intro i aAU;rw[e1];exact(gE (fun hm=>xX hi.2.1 hm aAU)).symm
 have Wz:vO E ops base q (after p.o st p.x p.u) (after q.o (after p.o st p.x p.u) q.x q.u):=by
  refine vO.same (st1:=st) ?_ ?_ hq
  ·intro t ht;exact(yP a3 t ht).symm
  ·intro i aAU;exact gE (fun hm=>xX hi.2.2 hm aAU)
 have e3:after q.o (after p.o st p.x p.u) q.x q.u=aWC:=by
  rw[e2,e1];unfold after;simp only;rw[Yo (o:=q.o) (o':=p.o) (fun d hd=>a2 d hd),Ka];have hu:=aBE hp;unfold Ju;rw[List.all_eq_true];intro i aAU;have:=xX hi.2.1 aAU;simp only[bMZ,List.elem_eq_mem,decide_eq_false_iff_not];exact fun hm=>this (hu i hm)
 exact⟨_,hp',_,Wz,by rw[e3];exact hl⟩
theorem vB.front{p:Dt}{l2:List Dt}{aRX:St}:∀{l1:List Dt} {st:St},(∀q∈l1,aQK ops q p)->vB E ops base (l1 ++ p :: l2) st aRX->vB E ops base (p :: (l1 ++ l2)) st aRX
 | [],st,_,h=>h
 |q :: l1,st,hi,h=>by
  obtain⟨st1,hq,h⟩:=h;have ih:=vB.front (fun q' Wz=>hi q' (bMK _ Wz)) h;exact vB.swap (hi q (bLY ..)) ⟨st1,hq,ih⟩
end
def aKQ(base:Nat)(done:Nat->Prop)(id:Nat):Prop:=id<base\/∃i,done i/\base+8*i<=id/\id<base+8*i+8
section
variable {P:Program} {E:Env} {X:Nat->Prop} {w0:Old} {ops:Array Oper} {base:Nat}
theorem gV.oU{ρ:Nat->Nat}{al al':Nat->Prop}{fr:Nat->A}{hp:Nat->Option iM}{a:Act}{w:World}(h:gV E X w0 ρ al fr hp a w)(oZ:∀i,al i->al' i):gV E X w0 ρ al' fr hp a w :=
 { fr:=h.fr,sz:=h.sz,nod:=h.nod,blk:=h.blk,inj:=h.inj,alh:=fun i b hb=>oZ i (h.alh i b hb),alr:=fun t i hi=>oZ i (h.alr t i hi),below:=h.below,x0:=h.x0,glob:=h.glob,mg:=h.mg,al0:=fun i hi=>oZ i (h.al0 i hi),uK:=h.uK }
theorem Kv{ρ:Nat->Nat}{al:Nat->Prop}{fr:Nat->A}{hp:Nat->Option iM}{a:Act}{w:World}(h:gV E X w0 ρ al fr hp a w){o:Oper} :
  (gd ops o fr=.run->Region.wanted o (yielded ops a.tmps)=true)/\(gd ops o fr=.skip->Region.wanted o (yielded ops a.tmps)=false):=by
 unfold gd Region.wanted;cases hg:o.guard with
 |none=>exact⟨fun _=>rfl,fun h=>by cases h⟩
 |some p =>
  obtain⟨j,want⟩:=p;simp only;cases hd:(ops[j]?).bind (·.dst)with
  |none=>exact⟨fun h=>(by cases h),fun h=>(by cases h)⟩
  |some d =>
   simp only;split
   ·rename_i b hb;have hr:=h.fr d;rw[hb]at hr;have hv:a.tmps.getD d undef=.bool b:=hr.1;have hy:yielded ops a.tmps j=some b:=by
     unfold yielded;rw[hd];simp only[bNI];have:a.tmps[d]?=some (.bool b):=by
      rw[Array.getD_eq_getD_getElem?]at hv;cases hq:a.tmps[d]? with
      |none=>rw[hq]at hv;simp[undef]at hv
      |some v=>rw[hq]at hv;simp at hv;rw[hv]
     rw[this]
    rw[hy]
    by_cases aJO:b=want
    ·simp[aJO]
    ·simp[aJO]
   ·rename_i hb;have hr:=h.fr d;rw[hb]at hr;obtain⟨arr,hv,_⟩:=hr;have hy:yielded ops a.tmps j=none:=by
     unfold yielded;rw[hd];simp only[bNI];rw[Array.getD_eq_getD_getElem?]at hv;cases hq:a.tmps[d]? with
     |none=>rfl
     |some v=>rw[hq]at hv;simp at hv;rw[hv]
    rw[hy];exact⟨fun h=>(by cases h),fun _=>rfl⟩
   ·exact⟨fun h=>(by cases h),fun h=>(by cases h)⟩
theorem vO.wp(hT:mH P E.T)(hC:iS P E){ρ:Nat->Nat}{done:Nat->Prop}{a:Act}{w:World}{st eI:St}{d:Dt}(hs:vO E ops base d st eI)(h:gV E X w0 ρ (aKQ base done) st.fr st.hp a w)(hnd:¬done d.i)
  (K:Act->World->Prop) (Q:Exit->Act->World->Prop) (hK:∀ρ' a' w',gV E X w0 ρ' (aKQ base fun i=>done i\/i=d.i) eI.fr eI.hp a' w'->K a' w'):wpOp P ops Q d.i K a w:=by
 obtain⟨h1,h2,h3,rfl⟩:=hs;unfold wpOp;rw[h1];simp only;have Ku:∀i,mB (aKQ base done) (base+8*d.i) i->aKQ base (fun i=>done i\/i=d.i) i:=by
  rintro i ((hi |⟨j,hj,Zd⟩) |hi)
  ·exact .inl hi
  ·exact .inr ⟨j,.inl hj,Zd⟩
  ·exact .inr ⟨d.i,.inr rfl,hi⟩
 rcases h3 with ⟨hg,he,ht⟩ |⟨hg,hx,hu,ht⟩
 ·rw[if_pos ((Kv h).1 hg)];refine .inl (So h h2 hT hC ?_ he K Q (fun ρ' v w' Tl=>hK ρ' _ w' (Tl.oU Ku)));rintro j hj (iN |⟨i,hi,aZY⟩)
  ·omega
  ·have:i=d.i:=by omega
   subst this;exact hnd hi
 ·rw[if_neg (by rw[(Kv h).2 hg];simp)];rw[hx,hu]at hK;exact hK ρ _ w ((h.pure h2 (x:=.Ix []) (v:=undef) ⟨#[],rfl,rfl,fun i y u hy=>by cases hy⟩ (by simp[refs])).oU (fun i hi=>Ku i (.inl hi)))
theorem vB.wpOps(hT:mH P E.T)(hC:iS P E)(Q:Exit->Act->World->Prop):∀(ds:List Dt) (done:Nat->Prop) (ρ:Nat->Nat) (a:Act) (w:World) (st eI:St),vB E ops base ds st eI->gV E X w0 ρ (aKQ base done) st.fr st.hp a w ->
  (∀d∈ds,¬done d.i)->(ds.map (·.i)).Nodup->(∀ρ' a' w',gV E X w0 ρ' (aKQ base fun i=>done i\/i∈ds.map (·.i)) eI.fr eI.hp a' w'->Q .normal a' w') ->
  Go.wpOps P ops Q (ds.map (·.i)) a w
 | [],done,ρ,a,w,st,eI,h,hs,_,_,hQ=>by
  cases h;exact hQ ρ a w (hs.oU (fun i hi=>hi.imp id fun⟨j,hj,Zd⟩=>⟨j,.inl hj,Zd⟩))
 |d :: ds,done,ρ,a,w,st,eI,h,hs,hnd,vU,hQ=>by
  obtain⟨st1,hd,hr⟩:=h;rw[bLQ,wpOps_cons];rw[bLQ,List.nodup_cons]at vU;refine hd.wp hT hC hs (hnd d (bLY ..)) _ _ (fun ρ' a' w' nU=>?_);refine vB.wpOps hT hC Q ds _ ρ' a' w' st1 eI hr nU (fun d' Ds Qm=>?_) vU.2 (fun ρ2 a2 w2 Ja=>hQ ρ2 a2 w2 (Ja.oU ?_))
  ·rcases Qm with Qm |Qm
   ·exact hnd d' (bMK _ Ds) Qm
   ·exact vU.1 (List.mem_map.2 ⟨d',Ds,Qm⟩)
  ·rintro i (hi |⟨j,hj,Zd⟩)
   ·exact .inl hi
   ·refine .inr ⟨j,?_,Zd⟩;rcases hj with (hj |hj) |hj
    ·exact .inl hj
    ·exact .inr (by rw[bLQ,hj];exact bLY ..)
    ·exact .inr (by rw[bLQ];exact bMK _ hj)
theorem zM.ind{p q:Dt}(h:zM ops p q)(Dq:¬(q.o.after.any fun e=>Region.binds .any e&&e.on==p.i)=true)(aZL:¬befB ops p.i 3 q.o=true):aQK ops p q:=by
 unfold zM indep at h;rw[bNA,bNA]at h;rcases h with (h |h) |h
 ·exact absurd h Dq
 ·simp only[bLX]at h;exact⟨h.1.1,h.1.2,h.2⟩
 ·exact absurd h aZL
def Ol(ops:Array Oper)(fQ:Array Bool):Prop:=∀(j:Nat) (o:Oper),fQ.getD j false=true->ops[j]?=some o->o.after.all (fun e=>!Region.binds .any e||fQ.getD e.on false)=true
theorem Ol.bFK{fQ:Array Bool}(hc:Ol ops fQ){j:Nat}:∀(n:Nat) (o:Oper),o.after.all (fun e=>!Region.binds .any e||fQ.getD e.on false)=true->befB ops j n o=true->fQ.getD j false=true
 |0,_,_,h=>by cases h
 |n+1,o,ha,h=>by
  unfold befB at h;rw[Array.any_eq_true']at h;obtain⟨e,he,aOS⟩:=h;rw[bLX]at aOS;rw[Array.all_eq_true_iff_forall_mem]at ha;have h1:=ha e he;rw[aOS.1]at h1;simp only[bNR,bNS]at h1;have h2:=aOS.2;rw[bNA]at h2;rcases h2 with h2 |h2
  ·have:e.on=j:=by simpa using h2
   rw[<-this];exact h1
  ·cases ho:ops[e.on]? with
   |none=>rw[ho]at h2;cases h2
   |some o' =>
    rw[ho]at h2;exact hc.bFK n o' (hc e.on o' h1 ho) h2
theorem vB.wpAny(hT:mH P E.T)(hC:iS P E)(Q:Exit->Act->World->Prop)(n:Nat)(hn:n=ops.size):∀(fuel:Nat) (ds:List Dt) (fQ:Array Bool) (ρ:Nat->Nat) (a:Act) (w:World) (st eI:St),ds.length=fuel->fQ.size=n ->
  (∀i,i∈ds.map (·.i)↔i<n/\fQ.getD i true=false)->(ds.map (·.i)).Pairwise (· < ·)->bNQ (zM ops) ds->(∀d∈ds,uU d.i d.o=true)->Ol ops fQ ->
  vB E ops base ds st eI->gV E X w0 ρ (aKQ base fun i=>fQ.getD i false=true) st.fr st.hp a w ->
  (∀ρ' a' w',gV E X w0 ρ' (aKQ base fun i=>i<n) eI.fr eI.hp a' w'->Q .normal a' w') ->
  Go.wpAny P .any ops Q fuel fQ a w:=by
 intro fuel
 induction fuel with
 |zero =>
  intro ds fQ ρ a w st eI hlen bEE He _ _ _ _ eZ hs hQ;obtain rfl:ds=[]:=bOG hlen;cases eZ;have wT:∀i,i<n->fQ.getD i true=true:=by
   intro i hi;cases hq:fQ.getD i true with
   |true=>rfl
   |false=>exact absurd ((He i).2 ⟨hi,hq⟩) (by simp)
  refine⟨?_,hQ ρ a w (hs.oU ?_)⟩
  ·unfold Region.ready;rw[List.filter_eq_nil_iff];intro i hi;rw[bNT,<-hn]at hi;simp[wT i hi]
  ·rintro i (hi |⟨j,hj,Zd⟩)
   ·exact .inl hi
   ·refine .inr ⟨j,?_,Zd⟩;rcases bMG j n with h |h
    ·exact h
    ·rw[Array.getD_eq_getD_getElem?,Array.getElem?_eq_none (by omega)]at hj;cases hj
 |succ fuel ih =>
  intro ds fQ ρ a w st eI hlen bEE He Zb aDR Xd aAW eZ hs hQ;have rN:∀d∈ds,ops[d.i]?=some d.o:=by
   have:∀(l:List Dt) (s s':St),vB E ops base l s s'->∀d∈l,ops[d.i]?=some d.o:=by
    intro l
    induction l with
    |nil=>intro s s' _ d hd;cases hd
    |cons d l ih =>
     intro s s' h d' Ds;obtain⟨s1,h1,h2⟩:=h;rcases List.mem_cons.1 Ds with rfl |Ds
     ·exact h1.1
     ·exact ih s1 s' h2 d' Ds
   exact this ds st eI eZ
  have aDQ:∀i,i∈Region.ready .any ops fQ↔i<n/\fQ.getD i true=false/\∃o,ops[i]?=some o/\o.after.all (fun e=>!Region.binds .any e||fQ.getD e.on false)=true:=by
   intro i;unfold Region.ready;rw[List.mem_filter,bNT,<-hn];constructor
   ·rintro ⟨h1,h2⟩;rw[bLX]at h2;refine⟨h1,by simpa using h2.1,?_⟩;cases ho:ops[i]? with
    |none=>rw[ho]at h2;simp at h2
    |some o=>exact⟨o,rfl,by have:=h2.2;rw[ho]at this;simpa using this⟩
   ·rintro ⟨h1,h2,o,ho,h3⟩;refine⟨h1,?_⟩;rw[bLX];exact⟨by simp[h2],by rw[ho];simpa using h3⟩
  refine⟨fun aTS=>?_,fun i hi=>?_⟩
  ·
   exfalso
   match ds,hlen with
   |d :: ds,_ =>
    have hd:d.i<n/\fQ.getD d.i true=false:=(He d.i).1 (bLY ..);have:d.i∈Region.ready .any ops fQ:=by
     refine(aDQ d.i).2 ⟨hd.1,hd.2,d.o,rN d (bLY ..),?_⟩;have he:=Xd d (bLY ..);unfold uU at he;rw[Array.all_eq_true_iff_forall_mem]at he ⊢;intro e bJK;have:=he e bJK;rw[bNA]at this ⊢;rcases this with h |h
     ·exact .inl h
     ·right;have iN:e.on<d.i:=bNP h;cases hq:fQ.getD e.on false with
      |true=>rfl
      |false =>
       have Wz:fQ.getD e.on true=false:=by
        rw[Array.getD_eq_getD_getElem?]at hq ⊢;rw[Array.getElem?_eq_getElem (by omega)]at hq ⊢;exact hq
       have hm:=(He e.on).2 ⟨by omega,Wz⟩;rw[bLQ,bMX]at hm;rw[bLQ,List.pairwise_cons]at Zb;rcases hm with hm |hm
       ·omega
       ·have:=Zb.1 _ hm;omega
    rw[aTS]at this;cases this
  ·obtain⟨h1,h2,o,ho,h3⟩:=(aDQ i).1 hi;have bIW:=(He i).2 ⟨h1,h2⟩;obtain⟨p,hp,aTK⟩:=List.mem_map.1 bIW;obtain⟨l1,l2,rfl⟩:=List.append_of_mem hp;have bDY:p.o=o:=by have:=rN p hp;rw[aTK,ho]at this;exact(Option.some.inj this).symm
   have aZV:∀q∈l1,aQK ops q p:=by
    intro q hq;have bHZ:zM ops q p:=(List.pairwise_append.1 aDR).2.2 q hq p (bLY ..);have bIE:¬fQ.getD q.i false=true:=by
     have aZF:=(He q.i).1 (List.mem_map.2 ⟨q,by simp[hq],rfl⟩);have h4:=aZF.2;rw[Array.getD_eq_getD_getElem?,Array.getElem?_eq_getElem (by omega)]at h4;rw[Array.getD_eq_getD_getElem?,Array.getElem?_eq_getElem (by omega)];rw[bON]at h4 ⊢;rw[h4];simp
    refine bHZ.ind (fun Ap=>?_) (fun hb=>bIE (aAW.bFK 3 p.o (by rw[bDY];exact h3) hb));rw[Array.any_eq_true']at Ap;obtain⟨e,he,aOS⟩:=Ap;rw[bLX]at aOS;rw[Array.all_eq_true_iff_forall_mem]at h3;have:=h3 e (by rw[<-bDY];exact he);rw[aOS.1]at this;simp only[bNR,bNS]at this;have bHW:e.on=q.i:=by simpa using aOS.2
    have aZF:=(He q.i).1 (List.mem_map.2 ⟨q,by simp[hq],rfl⟩);rw[bHW]at this;rw[Array.getD_eq_getD_getElem?,Array.getElem?_eq_getElem (by omega)]at this;have h4:=aZF.2;rw[Array.getD_eq_getD_getElem?,Array.getElem?_eq_getElem (by omega)]at h4;rw[bON]at this h4;rw[this]at h4;cases h4
   obtain⟨st1,aDN,vJ⟩:=vB.front aZV eZ;rw[<-aTK];have Sg:fQ.getD p.i false=false:=by
    have:=h2;rw[<-aTK]at this;rw[Array.getD_eq_getD_getElem?,Array.getElem?_eq_getElem (by omega)]at this ⊢;exact this
   refine aDN.wp hT hC hs (by simp[Sg]) _ _ (fun ρ' a' w' nU=>?_);have aOG:∀x∈(l1 ++ l2).map (·.i),x≠p.i:=by
    intro x hx;rw[bMQ,bLQ,List.pairwise_append]at Zb;rw[bMQ,bMT]at hx;rcases hx with hx |hx
    ·have:=Zb.2.2 x hx p.i (bLY ..);omega
    ·have:=(List.pairwise_cons.1 Zb.2.1).1 x hx;omega
   have bAN:Ol ops (fQ.setIfInBounds p.i true):=by
    have Ku:∀k,fQ.getD k false=true->(fQ.setIfInBounds p.i true).getD k false=true:=by
     intro k hk;rw[Array.getD_eq_getD_getElem?,Array.getElem?_setIfInBounds]
     by_cases bEG:p.i=k
     ·rw[if_pos bEG,aU];rfl
     ·rw[if_neg bEG,<-Array.getD_eq_getD_getElem?];exact hk
    have aHM:∀(o':Oper),o'.after.all (fun e=>!Region.binds .any e||fQ.getD e.on false)=true->o'.after.all (fun e=>!Region.binds .any e||(fQ.setIfInBounds p.i true).getD e.on false)=true:=by
     intro o' aAR;rw[Array.all_eq_true_iff_forall_mem]at aAR ⊢;intro e he;have:=aAR e he;rw[bNA]at this ⊢;exact this.imp id (Ku _)
    intro j o' hj aAR
    by_cases aUD:p.i=j
    ·have:o'=o:=by rw[<-aUD,aTK,ho]at aAR;exact(Option.some.inj aAR).symm
     rw[this];exact aHM o h3
    ·rw[Array.getD_eq_getD_getElem?,Array.getElem?_setIfInBounds,if_neg aUD,<-Array.getD_eq_getD_getElem?]at hj;exact aHM o' (aAW j o' hj aAR)
   refine ih (l1 ++ l2) _ ρ' a' w' st1 eI (by simp at hlen ⊢;omega) (by simpa using bEE) ?_ ?_ ?_ ?_ bAN vJ (nU.oU ?_) hQ
   ·intro x;have Ov:=He x;rw[bMQ,bLQ,bMT,bMX]at Ov;rw[bMQ,bMT];rw[Array.getD_eq_getD_getElem?,Array.getElem?_setIfInBounds];constructor
    ·intro hx;have Dq:=aOG x (by rw[bMQ,bMT];exact hx);have:=Ov.1 (hx.imp id .inr);refine⟨this.1,?_⟩;rw[if_neg (fun e=>Dq e.symm),<-Array.getD_eq_getD_getElem?];exact this.2
    ·rintro ⟨bHE,Sc⟩
     by_cases aQQ:p.i=x
     ·rw[if_pos aQQ,aU]at Sc;simp at Sc
     ·rw[if_neg aQQ,<-Array.getD_eq_getD_getElem?]at Sc;rcases Ov.2 ⟨bHE,Sc⟩with h |h |h
      ·exact .inl h
      ·exact absurd h.symm aQQ
      ·exact .inr h
   ·exact Zb.sublist (by simp)
   ·exact aDR.sublist (by simp)
   ·exact fun d hd=>Xd d (by rcases List.mem_append.1 hd with h |h <;> simp[h])
   ·rintro x (hx |⟨j,hj,Zd⟩)
    ·exact .inl hx
    ·refine .inr ⟨j,?_,Zd⟩;show(fQ.setIfInBounds p.i true).getD j false=true;rw[Array.getD_eq_getD_getElem?,Array.getElem?_setIfInBounds];rcases hj with hj |hj
     ·by_cases aUD:p.i=j
      ·rw[if_pos aUD,aU];rfl
      ·rw[if_neg aUD,<-Array.getD_eq_getD_getElem?];exact hj
     ·rw[if_pos hj.symm,aU];rfl
theorem Mf(hT:mH P E.T)(hC:iS P E)(hm:P.follows .mixedOrders=true){bGI:Nat}{draw:Bool}{R:Type}{K:St->Option R}{r:R}{st:St}{ρ:Nat->Nat}{a:Act}{w:World}(hs:gV E X w0 ρ (fun i=>i<st.n) st.fr st.hp a w)
  (he:opsK E draw ops st.n ops.toList 0 [] st K=some r) (Q:Exit->Act->World->Prop) (hQ:∀eI ρ' a' w',K eI=some r->gV E X w0 ρ' (fun i=>i<st.n+8*ops.size) eI.fr eI.hp a' w'->Q .normal a' w') :
  (Code.region bGI ops draw).wp P Q a w:=by
 obtain⟨ds,eI,hK,eZ,aUI,aUQ⟩:=Kn E draw ops st.n K r ops.toList 0 [] st (fun k o hk=>by rw[bLT];simpa using hk) he;have hlen:ds.length=ops.size:=by have:=congrArg List.length aUI;simpa using this
 have Mv:ds.map (·.i)=bNB ops.size:=by rw[aUI,Array.length_toList,List.range_eq_range']
 have oZ:∀i,aKQ st.n (fun i=>i<ops.size) i->i<st.n+8*ops.size:=by
  rintro i (hi |⟨j,hj,Zd⟩) <;> omega
 have He:∀i,i∈ds.map (·.i)↔i<ops.size:=fun i=>by rw[Mv,bNT]
 cases draw with
 |false =>
  refine wp_region ?_;rw[<-Mv];refine eZ.wpOps hT hC Q ds (fun _=>False) ρ a w st eI (hs.oU (fun i hi=>.inl hi)) (fun _ _ h=>h) (by rw[Mv];exact List.nodup_range) (fun ρ' a' w' nU=>hQ eI ρ' a' w' hK (nU.oU (fun i hi=>oZ i ?_)));rcases hi with hi |⟨j,hj,Zd⟩
  ·exact .inl hi
  ·exact .inr ⟨j,(He j).1 (hj.resolve_left id),Zd⟩
 |true =>
  obtain⟨_,aDR,Xd⟩:=aUQ rfl;refine wp_region_any hm ?_;have Se:gV E X w0 ρ (fun i=>i<st.n) st.fr st.hp a { w with drawn:=w.drawn+1 }:=hs.drew;refine vB.wpAny hT hC Q ops.size rfl ops.size ds _ ρ a _ st eI hlen (by simp) (fun i=>?_) ?_ aDR Xd (fun j o hj _=>?_) eZ (Se.oU (fun i hi=>.inl hi)) (fun ρ' a' w' nU=>hQ eI ρ' a' w' hK (nU.oU oZ))
  ·rw[He];constructor
   ·intro hi;exact⟨hi,by rw[Array.getD_eq_getD_getElem?,Array.getElem?_replicate,if_pos hi];rfl⟩
   ·exact fun h=>h.1
  ·rw[Mv];exact List.pairwise_lt_range
  ·exfalso;rw[Array.getD_eq_getD_getElem?,Array.getElem?_replicate]at hj;split at hj <;> cases hj
end
end AI
namespace AI
open Go Go.RowKit
section
variable {P:Program} {E:Env} {X:Nat->Prop} {w0:Old}
def Fp(n0:Nat)(st:St)(p s i:Nat)(kv:KV):Prop :=
 kv=(.any,none)\/(bLU 1000000 s=true/\aEJ st (s%1000000)=some (i,kv.1)/\kv.2=none/\n0<=i)\/(∃n,kv=(.v (.one (.buf p n)),st.hp i)/\st.fr (s%1000000)=.v (.one (.buf i n)))\/(kv=(.v (.one (.ptr p 0)),st.hp i)/\st.fr (s%1000000)=.v (.one (.ptr i 0)))\/(kv=(st.fr (s%1000000),none)/\∀i∈refs (st.fr (s%1000000)),i<n0)
def claim(s:Nat)(kv:KV):Bool:=kv.2.isSome||(bLU 1000000 s&&(match kv.1 with | .any=>false |_=>true))
theorem Zk{st:St}{s i:Nat}{a:A}(h:aEJ st s=some (i,a)):∃n sz f,st.fr s=.v (.one (.buf i n))/\a=.v (.one (.rows sz n f))/\toD st.hp (.v (.one (.buf i n)))=some (.rows sz n f):=by
 unfold aEJ at h;split at h
 ·rename_i i' n hf;split at h
  ·rename_i e cs hb;split at h
   ·rename_i hc;cases h;refine⟨n,_,_,hf,rfl,?_⟩;simp only[toD,hb];rw[if_pos hc]
   ·cases h
  ·cases h
 ·cases h
theorem Av(n0:Nat)(st:St):∀(keep:List Nat) (p:Nat) (seen:List Nat),(∀x,x<n0->x∈seen)->∃Mt:Nat->Nat,(canonGo n0 st keep p seen).length=keep.length /\
  (∀(k s:Nat),keep[k]?=some s->∃kv,(canonGo n0 st keep p seen)[k]?=some kv/\Fp n0 st (p+k) s (Mt k) kv/\(claim s kv=true->Mt k ∉ seen)) /\
  (∀(k k' s s':Nat) (kv Iy:KV),keep[k]?=some s->keep[k']?=some s'->(canonGo n0 st keep p seen)[k]?=some kv->(canonGo n0 st keep p seen)[k']?=some Iy->claim s kv=true->claim s' Iy=true->Mt k=Mt k'->k=k')
 | [],p,seen,_=>⟨fun _=>0,rfl,fun k s h=>by simp at h,fun k k' s s' kv Iy h=>by simp at h⟩
 |s :: keep,p,seen,hn=>by
  have core:∀(kv:KV) (i:Nat) (Gf:List Nat),(∀x∈seen,x∈Gf)->(claim s kv=true->i∈Gf/\i ∉ seen)->Fp n0 st p s i kv->canonGo n0 st (s :: keep) p seen=kv :: canonGo n0 st keep (p+1) Gf ->
    ∃Mt:Nat->Nat,(canonGo n0 st (s :: keep) p seen).length=(s :: keep).length /\
    (∀(k s':Nat),(s :: keep)[k]?=some s'->∃kv,(canonGo n0 st (s :: keep) p seen)[k]?=some kv/\Fp n0 st (p+k) s' (Mt k) kv/\(claim s' kv=true->Mt k ∉ seen)) /\
    (∀(k k' s1 s2:Nat) (kv Iy:KV),(s :: keep)[k]?=some s1->(s :: keep)[k']?=some s2->(canonGo n0 st (s :: keep) p seen)[k]?=some kv->(canonGo n0 st (s :: keep) p seen)[k']?=some Iy->claim s1 kv=true->claim s2 Iy=true->Mt k=Mt k'->k=k'):=by
   intro kv i Gf bDT hi bAC heq;obtain⟨Mt,h1,h2,h3⟩:=Av n0 st keep (p+1) Gf (fun x hx=>bDT x (hn x hx));rw[heq];have aLV:∀(k s':Nat) (Iy:KV),keep[k]?=some s'->(canonGo n0 st keep (p+1) Gf)[k]?=some Iy->claim s' Iy=true->Mt k ∉ Gf:=by
    intro k s' Iy nU hk hs;obtain⟨aYH,e1,_,e3⟩:=h2 k s' nU;rw[hk]at e1;cases e1;exact e3 hs
   refine⟨fun k=>if k=0 then i else Mt (k-1),by simp[h1],?_,?_⟩
   ·intro k s' hk
    match k with
    |0=>simp at hk;subst hk;exact⟨kv,rfl,by simpa using bAC,fun h=>by simpa using (hi h).2⟩
    |k+1 =>
     simp at hk;obtain⟨Iy,e1,e2,e3⟩:=h2 k s' hk;refine⟨Iy,by simpa using e1,?_,fun h=>?_⟩
     ·simp only[bOO,if_false,bOP];rw[show p+(k+1)=p+1+k by omega];exact e2
     ·simp only[bOO,if_false,bOP];exact fun hm=>e3 h (bDT _ hm)
   ·intro k k' s1 s2 bDC aYH Se Ja hk Sh hs nU he
    match k,k' with
    |0,0=>rfl
    |0,k'+1 =>
     simp at hk Sh Se Ja;subst hk;subst Se;simp at he;exact absurd (hi hs).1 (by rw[he];exact aLV k' s2 aYH Ja Sh nU)
    |k+1,0 =>
     simp at hk Sh Se Ja;subst Sh;subst Ja;simp at he;exact absurd (hi nU).1 (by rw[<-he];exact aLV k s1 bDC Se hk hs)
    |k+1,k'+1 =>
     simp at hk Sh he Se Ja;have:=h3 k k' s1 s2 bDC aYH Se Ja hk Sh hs nU he;omega
  have Ap:canonGo n0 st (s :: keep) p seen=(.any,none) :: canonGo n0 st keep (p+1) seen->_:=core (.any,none) 0 seen (fun _ h=>h) (fun h=>by simp[claim]at h) (.inl rfl);cases hz:bLU 1000000 s with
  |true =>
   cases hv:aEJ st (s%1000000)with
   |none=>exact Ap (by simp only[canonGo,hz,cond_true,hv])
   |some q =>
    obtain⟨i,a⟩:=q;cases Sd:seen.elem i with
    |true=>exact Ap (by simp only[canonGo,hz,cond_true,hv,Sd])
    |false =>
     have Cn:i ∉ seen:=by simpa using Sd
     exact core (a,none) i (i :: seen) (fun _ h=>bMK _ h) (fun _=>⟨bLY ..,Cn⟩) (.inr (.inl ⟨hz,hv,rfl,Nat.le_of_not_lt fun iN=>Cn (hn i iN)⟩)) (by simp only[canonGo,hz,cond_true,hv,Sd,cond_false])
  |false =>
  have Yr:∀a,claim s (a,none)=true->False:=by
   intro a h;simp[claim,hz]at h
  cases hf:st.fr (s%1000000)with
  |any=>exact Ap (by simp only[canonGo,hz,cond_false,hf])
  |Ix xs=>exact Ap (by simp only[canonGo,hz,cond_false,hf])
  |v x =>
   cases x with
   |agg cs=>exact core (.v (.agg cs),none) 0 seen (fun _ h=>h) (fun h=>(Yr _ h).elim) (.inr (.inr (.inr (.inr ⟨by rw[hf],by rw[hf];intro i hi;cases hi⟩)))) (by simp only[canonGo,hz,cond_false,hf])
   |one l =>
    cases l with
    |s x=>exact core (.v (.one (.s x)),none) 0 seen (fun _ h=>h) (fun h=>(Yr _ h).elim) (.inr (.inr (.inr (.inr ⟨by rw[hf],by rw[hf];intro i hi;cases hi⟩)))) (by simp only[canonGo,hz,cond_false,hf])
    |rows sz n f=>exact core (.v (.one (.rows sz n f)),none) 0 seen (fun _ h=>h) (fun h=>(Yr _ h).elim) (.inr (.inr (.inr (.inr ⟨by rw[hf],by rw[hf];intro i hi;cases hi⟩)))) (by simp only[canonGo,hz,cond_false,hf])
    |Jt cs=>exact core (.v (.one (.Jt cs)),none) 0 seen (fun _ h=>h) (fun h=>(Yr _ h).elim) (.inr (.inr (.inr (.inr ⟨by rw[hf],by rw[hf];intro i hi;cases hi⟩)))) (by simp only[canonGo,hz,cond_false,hf])
    |Nw k ns=>exact core (.v (.one (.Nw k ns)),none) 0 seen (fun _ h=>h) (fun h=>(Yr _ h).elim) (.inr (.inr (.inr (.inr ⟨by rw[hf],by rw[hf];intro i hi;cases hi⟩)))) (by simp only[canonGo,hz,cond_false,hf])
    |Ms i j=>exact Ap (by simp only[canonGo,hz,cond_false,hf])
    |view i off n =>
     cases Sd:bMC i n0 with
     |false=>exact Ap (by simp only[canonGo,hz,hf,Sd,cond_false])
     |true =>
      have iN:i<n0:=by rw[Nat.blt_eq]at Sd;exact Sd
      exact core (.v (.one (.view i off n)),none) 0 seen (fun _ h=>h) (fun h=>(Yr _ h).elim) (.inr (.inr (.inr (.inr ⟨by rw[hf],by rw[hf];intro j hj;simp[refs,refsV,refsL]at hj;omega⟩)))) (by simp only[canonGo,hz,cond_false,hf,Sd,cond_true])
    |buf i n =>
     cases Sd:seen.elem i with
     |true=>exact Ap (by simp only[canonGo,hz,cond_false,hf,Sd,cond_true])
     |false =>
      have Cn:i ∉ seen:=by simpa using Sd
      exact core (.v (.one (.buf p n)),st.hp i) i (i :: seen) (fun _ h=>bMK _ h) (fun _=>⟨bLY ..,Cn⟩) (.inr (.inr (.inl ⟨n,rfl,hf⟩))) (by simp only[canonGo,hz,hf,Sd,cond_false])
    |ptr i off =>
     match off with
     |0 =>
      cases Sd:seen.elem i with
      |true=>exact Ap (by simp only[canonGo,hz,cond_false,hf,Sd,cond_true])
      |false =>
       have Cn:i ∉ seen:=by simpa using Sd
       exact core (.v (.one (.ptr p 0)),st.hp i) i (i :: seen) (fun _ h=>bMK _ h) (fun _=>⟨bLY ..,Cn⟩) (.inr (.inr (.inr (.inl ⟨rfl,hf⟩)))) (by simp only[canonGo,hz,hf,Sd,cond_false])
     |off+1=>exact Ap (by simp only[canonGo,hz,cond_false,hf])
theorem Dk(t:Nat):∀(keep:List Nat) (l:List KV),slotGo t keep l=.any\/∃(k s:Nat) (kv:KV),keep[k]?=some s/\t=s%1000000/\l[k]?=some kv/\slotGo t keep l=kv.1
 | [],_=>.inl (by simp[slotGo])
 |_ :: _,[]=>.inl (by simp[slotGo])
 |s :: keep,kv :: l=>by
  simp only[slotGo];cases hb:bLS t (s%1000000)with
  |true=>exact .inr ⟨0,s,kv,rfl,bMF hb,rfl,rfl⟩
  |false =>
   rcases Dk t keep l with h |⟨k,s',Iy,h1,h0,h2,h3⟩
   ·exact .inl h
   ·exact .inr ⟨k+1,s',Iy,by simpa using h1,h0,by simpa using h2,h3⟩
theorem Hv:∀(l:List KV) (i:Nat) (b:iM),blkGo i l=some b->∃kv,l[i]?=some kv/\kv.2=some b
 | [],i,b,h=>by simp[blkGo]at h
 |kv :: l,0,b,h=>⟨kv,rfl,h⟩
 |kv :: l,i+1,b,h=>by
  obtain⟨Iy,h1,h2⟩:=Hv l i b h;exact⟨Iy,by simpa using h1,h2⟩
theorem Lc:∀(l:List KV) (i:Nat) (kv:KV),l[i]?=some kv->blkGo i l=kv.2
 | [],i,kv,h=>by simp at h
 |bGZ :: l,0,kv,h=>by simp at h;subst h;rfl
 |bGZ :: l,i+1,kv,h=>Lc l i kv (by simpa using h)
theorem Du(st:St):∀(n i:Nat),(canonIO st n i).length=n
 |0,_=>rfl
 |n+1,i=>by simp[canonIO,Du st n]
theorem Dv(st:St):∀(n i k:Nat) (r:List KV),k<n->blkGo k (canonIO st n i ++ r)=st.hp (i+k)
 |0,_,_,_,h=>by omega
 |n+1,i,0,r,_=>rfl
 |n+1,i,k+1,r,h=>by
  simp only[canonIO,bNJ,blkGo];rw[Dv st n (i+1) k r (by omega)];congr 1;omega
theorem Au(st:St):∀(n i k:Nat) (r:List KV),blkGo (n+k) (canonIO st n i ++ r)=blkGo k r
 |0,_,k,r=>by simp[canonIO]
 |n+1,i,k,r=>by
  rw[show n+1+k=(n+k)+1 by omega];simp only[canonIO,bNJ,blkGo];exact Au st n (i+1) k r
theorem Cw:∀{n i:Nat},i<n->i∈below n
 |n+1,i,h=>by
  unfold below
  by_cases hi:i=n
  ·subst hi;exact bLY ..
  ·exact bMK _ (Cw (by omega))
theorem Ct{ρ:Nat->Nat}{al:Nat->Prop}{st:St}{a:Act}{w:World}(h:gV E X w0 ρ al st.fr st.hp a w)(keep:List Nat) :
  ∃ρ',gV E X w0 ρ' (fun i=>i<(mk E.n0 keep (canon E.n0 keep st)).n) (mk E.n0 keep (canon E.n0 keep st)).fr (mk E.n0 keep (canon E.n0 keep st)).hp a w:=by
 obtain⟨n0,Ef⟩:∃n0,n0=E.n0:=⟨_,rfl⟩;rw[<-Ef];obtain⟨Mt,h1,h2,h3⟩:=Av n0 st keep n0 (below n0) (fun x hx=>Cw hx);obtain⟨C,hC⟩:∃C,C=canonGo n0 st keep n0 (below n0):=⟨_,rfl⟩;have aUB:canon n0 keep st=canonIO st n0 0 ++ C:=by rw[hC];rfl
 rw[<-hC]at h1 h2 h3;rw[aUB];have aEA:(canonIO st n0 0 ++ C).drop n0=C:=by
  have:=bOJ (l₁:=canonIO st n0 0) (l₂:=C);rwa [Du]at this
 obtain⟨tA,My⟩:∃tA,tA=(mk n0 keep (canonIO st n0 0 ++ C)).hp:=⟨_,rfl⟩;rw[<-My];have Tq:∀q,q<n0->tA q=st.hp q:=fun q hq=>by
  rw[My];have:=Dv st n0 0 q C hq;rw[bLT]at this;exact this
 have Si:∀k,tA (n0+k)=blkGo k C:=fun k=>by rw[My];exact Au st n0 0 k C
 have aQX:∀t,(mk n0 keep (canonIO st n0 0 ++ C)).fr t=slotGo t keep C:=fun t=>by
  show slotGo t keep ((canonIO st n0 0 ++ C).drop n0)=_;rw[aEA]
 have hn:(mk n0 keep (canonIO st n0 0 ++ C)).n=n0+keep.length:=rfl;obtain⟨aAP,aUJ⟩:∃aAP:Nat->Nat,aAP=fun q=>if q<n0 then q else Mt (q-n0):=⟨_,rfl⟩
 have aJJ:∀q,q<n0->aAP q=q:=fun q hq=>by rw[aUJ];simp only;rw[if_pos hq]
 have aDZ:∀k,aAP (n0+k)=Mt k:=fun k=>by rw[aUJ];simp only;rw[aY];congr 1;omega
 have aHM:∀(k:Nat) (b:iM),blkGo k C=some b->k<keep.length/\st.hp (Mt k)=some b/\n0<=Mt k/\∃kv,C[k]?=some kv/\kv.2=some b:=by
  intro q b hq;obtain⟨kv,hk,hb⟩:=Hv _ q b hq;have iN:q<keep.length:=by have:=aR hk;omega
  obtain⟨s,hs⟩:=bA iN;obtain⟨Iy,e1,e2,e3⟩:=h2 q s hs;rw[hk]at e1;cases e1;refine⟨iN,?_,?_,kv,hk,hb⟩
  ·rcases e2 with rfl |⟨_,_,h9,_⟩ |⟨n,rfl,_⟩ |⟨rfl,_⟩ |⟨rfl,_⟩
   ·cases hb
   ·rw[h9]at hb;cases hb
   ·exact hb
   ·exact hb
   ·cases hb
  ·have:=e3 (by unfold claim;rw[hb];rfl);rcases bMG (Mt q) n0 with h4 |h4
   ·exact absurd (Cw h4) this
   ·exact h4
 have Qk:∀(q:Nat) (b:iM),tA q=some b->st.hp (aAP q)=some b/\q<n0+keep.length:=by
  intro q b hq;rcases bMG q n0 with h4 |h4
  ·rw[Tq q h4]at hq;exact⟨by rw[aJJ q h4];exact hq,by omega⟩
  ·obtain⟨k,rfl⟩:=bMW h4;rw[Si]at hq;obtain⟨h5,h6,_⟩:=aHM k b hq;exact⟨by rw[aDZ];exact h6,by omega⟩
 have pP:∀b,XO X (fun q=>ρ (aAP q)) tA b->XO X ρ st.hp b:=by
  rintro b (hb |⟨q,bl,h4,h5⟩)
  ·exact .inl hb
  ·exact .inr ⟨aAP q,bl,(Qk q bl h4).1,h5⟩
 have hl:fV (XO X ρ st.hp) w (XO X (fun q=>ρ (aAP q)) tA) w:=⟨bLR _,fun b _ hx=>⟨rfl,fun hb=>hx (pP b hb)⟩⟩;have key:∀t,vD (fun q=>ρ (aAP q)) tA (XO X (fun q=>ρ (aAP q)) tA) w (slotGo t keep C) (a.tmps.getD t undef)/\∀i∈refs (slotGo t keep C),i<n0+keep.length:=by
  intro t;rcases Dk t keep C with he |⟨k,s,kv,hk,aWK,aWR,he⟩
  ·rw[he];exact⟨trivial,by simp[refs]⟩
  ·rw[he];obtain⟨Iy,e1,e2,e3⟩:=h2 k s hk;rw[aWR]at e1;cases e1;have iN:=aR hk;have hr:=h.fr t;have aUU:=Lc _ k kv aWR;unfold Fp at e2;rw[<-aWK]at e2;rcases e2 with rfl |⟨hz,hfz,h9,bFE⟩ |⟨n,rfl,hf⟩ |⟨rfl,hf⟩ |⟨rfl,hf⟩
   ·exact⟨trivial,by simp[refs]⟩
   ·obtain⟨n,sz,f,hf,ha,hd⟩:=Zk hfz;rw[hf]at hr;have aAW:claim s kv=true:=by unfold claim;rw[hz,ha];simp
    have bHT:=Br h (u:=[(Mt k,none)]) (fun p hp=>by simp at hp;rw[hp]) hr (fun i hi=>by simp[refs,refsV,refsL]at hi;rw[hi];simp) hd;rw[ha];refine⟨lL.later (d:=.rows sz n f) ⟨bLR _,fun b _ hx=>⟨rfl,fun hb=>hx ?_⟩⟩ bHT,by intro i hi;cases hi⟩;rcases hb with hb |⟨q,bl,h4,h5⟩
    ·exact .inl hb
    ·have h6:=Qk q bl h4;refine .inr ⟨aAP q,bl,?_,h5⟩;simp only[applyUps];rw[eF _ _ ?_]
     ·exact h6.1
     ·intro hq;rcases bMG q n0 with h7 |h7
      ·rw[aJJ q h7]at hq;omega
      ·obtain⟨k',rfl⟩:=bMW h7;rw[Si]at h4;obtain⟨h8,_,_,Iy,Sh,aDU⟩:=aHM k' bl h4;obtain⟨s',nU⟩:=bA h8;rw[aDZ]at hq;have:=h3 k' k s' s Iy kv nU hk Sh aWR (by unfold claim;rw[aDU];rfl) aAW hq;subst this;rw[aWR]at Sh;cases Sh;rw[h9]at aDU;cases aDU
   ·rw[hf]at hr;obtain⟨cap,hv,yH,hc,aMD⟩:=hr;refine⟨⟨cap,by simp only[aDZ];exact hv,yH,fun blk k1 ns hb Eg=>?_,fun blk cs hb Eg=>?_⟩,?_⟩
    ·rw[Si,aUU]at hb;have:=hc blk k1 ns hb Eg;simp only[aDZ];exact this
    ·rw[Si,aUU]at hb;have:=aMD blk cs hb Eg;simp only[aDZ];exact this
    ·intro i hi;simp[refs,refsV,refsL]at hi;omega
   ·rw[hf]at hr;refine⟨?_,?_⟩
    ·show _=_;simp only[aDZ];exact hr
    ·intro i hi;simp[refs,refsV,refsL]at hi;omega
   ·refine⟨vD.later (al:=fun i=>i<n0) hl (fun i hi=>⟨by simp only[aJJ i hi],fun b' vL=>⟨b',by rw[<-Tq i hi];exact vL,sameShape.refl _,rfl⟩⟩) hf hr,fun i hi=>?_⟩;have:=hf i hi;omega
 refine⟨fun q=>ρ (aAP q),{ fr:=fun t=>by rw[aQX];exact(key t).1,sz:=h.sz,nod:=h.nod,blk:=?_,inj:=?_,alh:=?_,alr:=fun t i hi=>by rw[aQX]at hi;exact(key t).2 i hi,below:=h.below,x0:=h.x0,glob:=h.glob,mg:=h.mg,al0:=fun i hi=>by show i<n0+keep.length;omega,uK:=fun i hi=>by simp only[aJJ i (by omega)];exact h.uK i hi }⟩
 ·intro q b hq;have hb:=(Qk q b hq).1;refine⟨?_,(h.blk _ b hb).2.later hl rfl⟩;rcases bMG q n0 with h4 |h4
  ·have:=(h.blk _ b hb).1;simp only[aJJ q h4]at this ⊢;exact this
  ·obtain⟨k,rfl⟩:=bMW h4;rw[Si]at hq;obtain⟨_,_,h6,_⟩:=aHM k b hq;exact .inl ((h.blk _ b hb).1.new (by rw[aDZ];omega))
 ·intro q q' b b' hq Wz he;have hb:=(Qk q b hq).1;have vL:=(Qk q' b' Wz).1;have aJK:=h.inj _ _ b b' hb vL he;rcases bMG q n0 with h4 |h4
  ·rcases bMG q' n0 with h5 |h5
   ·rw[aJJ q h4,aJJ q' h5]at aJK;exact aJK
   ·obtain⟨k,rfl⟩:=bMW h5;rw[Si]at Wz;obtain⟨_,_,h6,_⟩:=aHM k b' Wz;rw[aJJ q h4,aDZ]at aJK;omega
  ·obtain⟨k,rfl⟩:=bMW h4;rw[Si]at hq;obtain⟨_,_,h6,kv,hk,bIP⟩:=aHM k b hq;rcases bMG q' n0 with h5 |h5
   ·rw[aJJ q' h5,aDZ]at aJK;omega
   ·obtain⟨k',rfl⟩:=bMW h5;rw[Si]at Wz;obtain⟨_,_,_,Iy,Sh,aDU⟩:=aHM k' b' Wz;rw[aDZ,aDZ]at aJK;obtain⟨s1,Se⟩:=bA (l:=keep) (i:=k) (by have:=aR hk;omega);obtain⟨s2,Ja⟩:=bA (l:=keep) (i:=k') (by have:=aR Sh;omega);have:=h3 k k' s1 s2 kv Iy Se Ja hk Sh (by unfold claim;rw[bIP];rfl) (by unfold claim;rw[aDU];rfl) aJK;omega
 ·intro q b hq;exact(Qk q b hq).2
def exitOf:Ex->Exit
 | .normal=>.normal
 | .exit id=>.exit id
 | .ret=>.ret
def KQ{R:Type}(E:Env)(X:Nat->Prop)(w0:Old)(K:Ex->St->Option R)(Q:Exit->Act->World->Prop)(r:R):Prop :=
 ∀(ex:Ex) (st:St) (ρ:Nat->Nat) (a:Act) (w:World),K ex st=some r->gV E X w0 ρ (fun i=>i<st.n) st.fr st.hp a w->Q (exitOf ex) a w
theorem wO{R:Type}{c:Code}{keep:List Nat}{r:R}{Q:Exit->Act->World->Prop}{K:Ex->St->Option R}(bBB:KQ E X w0 K Q r)
  (ih:∀(st:St) (K:Ex->St->Option R) (Q:Exit->Act->World->Prop) (ρ:Nat->Nat) (a:Act) (w:World),gV E X w0 ρ (fun i=>i<st.n) st.fr st.hp a w->evalCode E c st K=some r->KQ E X w0 K Q r->c.wp P Q a w) :
  ∀(n:Nat) (l:List KV) (ρ:Nat->Nat) (a:Act) (w:World),iter (fun rec l=>evalCode E c (mk E.n0 keep l) fun ex eI=>match ex with
    | .normal=>rec (canon E.n0 keep eI)
    | .exit i=>K (.exit i) eI
    | .ret=>K .ret eI) n l=some r->gV E X w0 ρ (fun i=>i<(mk E.n0 keep l).n) (mk E.n0 keep l).fr (mk E.n0 keep l).hp a w->Code.rounds P c Q n a w
 |0,l,ρ,a,w,h,_=>by cases h
 |n+1,l,ρ,a,w,h,hs=>by
  rw[rounds_succ];refine ih (mk E.n0 keep l) _ _ ρ a w hs h ?_;intro ex eI ρ' a' w' he nU;cases ex with
  |normal =>
   obtain⟨ρ2,Ja⟩:=Ct nU keep;exact wO bBB ih n _ ρ2 a' w' he Ja
  |exit i=>exact bBB (.exit i) eI ρ' a' w' he nU
  |ret=>exact bBB .ret eI ρ' a' w' he nU
theorem aEL{α R:Type}{G:(α->Option R)->α->Option R}{x:α}{r:R}(h:fix G x=some r):∃n,iter G n x=some r:=by
 unfold fix at h;split at h
 ·rename_i hex;cases h;exact Classical.choose_spec hex
 ·cases h
theorem Uf(hT:mH P E.T)(hC:iS P E)(hm:P.follows .mixedOrders=true){R:Type}(r:R):∀(c:Code) (st:St) (K:Ex->St->Option R) (Q:Exit->Act->World->Prop) (ρ:Nat->Nat) (a:Act) (w:World),
  gV E X w0 ρ (fun i=>i<st.n) st.fr st.hp a w->evalCode E c st K=some r->KQ E X w0 K Q r->c.wp P Q a w:=by
 intro c
 induction c with
 |skip=>intro st K Q ρ a w hs he hK;exact wp_skip (hK .normal st ρ a w he hs)
 |label l=>intro st K Q ρ a w hs he hK;exact wp_label (hK .normal st ρ a w he hs)
 |exit id=>intro st K Q ρ a w hs he hK;exact wp_exit (hK (.exit id) st ρ a w he hs)
 |ret=>intro st K Q ρ a w hs he hK;exact wp_ret (hK .ret st ρ a w he hs)
 |region id ops draw =>
  intro st K Q ρ a w hs he hK;unfold evalCode at he;exact Mf hT hC hm hs he Q (fun eI ρ' a' w' hk nU=>hK .normal _ ρ' a' w' hk nU)
 |seq x y aWF aSP =>
  intro st K Q ρ a w hs he hK;unfold evalCode at he;refine wp_seq (aWF st _ _ ρ a w hs he ?_);intro ex eI ρ' a' w' hk nU;cases ex with
  |normal =>
   simp only at hk;split at hk
   ·rename_i keep _;obtain⟨ρ2,Ja⟩:=Ct nU keep;unfold xY at hk;exact aSP _ K Q ρ2 a' w' Ja hk hK
   ·exact aSP eI K Q ρ' a' w' nU hk hK
  |exit i=>exact hK (.exit i) eI ρ' a' w' hk nU
  |ret=>exact hK .ret eI ρ' a' w' hk nU
 |cond c x y aWF aSP =>
  intro st K Q ρ a w hs he hK;unfold evalCode at he;split at he
  ·rename_i s;split at he
   ·rename_i t ht;have hr:=hs.fr s;rw[ht]at hr;have hv:a.eval (.tmp s)=.bool t:=hr.1;have e0:xO st.fr s (yF (.bool t))=st.fr:=Vi st.fr s t ht;refine wp_cond hv ?_;cases t with
    |true=>simp only[cond_true,e0]at he;exact aWF _ K Q ρ a w hs he hK
    |false=>simp only[cond_false,e0]at he;exact aSP _ K Q ρ a w hs he hK
   ·cases he
  ·rename_i t;refine wp_cond (t:=t) rfl ?_;cases t with
   |true=>simp only[cond_true]at he;exact aWF _ K Q ρ a w hs he hK
   |false=>simp only[cond_false]at he;exact aSP _ K Q ρ a w hs he hK
  ·cases he
 |block id c ih =>
  intro st K Q ρ a w hs he hK;unfold evalCode at he;refine wp_block (ih st _ _ ρ a w hs he ?_);intro ex eI ρ' a' w' hk nU;cases ex with
  |normal=>exact hK .normal eI ρ' a' w' hk nU
  |ret=>exact hK .ret eI ρ' a' w' hk nU
  |exit i =>
   simp only[exitOf,Exit.inBlock];simp only at hk;cases hb:bLS i id with
   |true =>
    rw[hb]at hk;rw[if_pos (bMF hb)];exact hK .normal eI ρ' a' w' hk nU
   |false =>
    rw[hb]at hk;rw[if_neg (bNV hb)];exact hK (.exit i) eI ρ' a' w' hk nU
 |loop c ih =>
  intro st K Q ρ a w hs he hK;unfold evalCode at he;obtain⟨ρ2,Ja⟩:=Ct hs (E.keep (keyOf c));split at he
  ·rename_i n _;exact wp_loop_rounds n (wO hK ih n _ ρ2 a w he Ja)
  ·obtain⟨n,hn⟩:=aEL he;exact wp_loop_rounds n (wO hK ih n _ ρ2 a w hn Ja)
 |rangeFunc f ps x y _ _=>intro st K Q ρ a w hs he hK;unfold evalCode at he;cases he
 |scope c ih =>
  intro st K Q ρ a w hs he hK;unfold evalCode at he;refine wp_scope_straight (ih st K _ ρ a w hs he ?_);intro ex eI ρ' a' w' hk nU;have:=hK ex eI ρ' a' w' hk nU;cases ex <;> exact this
 |goto l=>intro st K Q ρ a w hs he hK;unfold evalCode at he;cases he
 |refuse bCQ=>intro st K Q ρ a w hs he hK;unfold evalCode at he;cases he
end
end AI
end Go.Proofs.YtplagoepbghhpaaGreatDoor
end
