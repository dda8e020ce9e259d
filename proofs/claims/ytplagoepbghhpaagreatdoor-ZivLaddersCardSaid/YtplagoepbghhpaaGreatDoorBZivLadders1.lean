/- Contracts. -/
import Derived.WalkKit
import Derived.Laws.CopyOwn
import Derived.LoopN
import Derived.Laws.StructEq
import Derived.Scope
set_option linter.unusedVariables false
set_option linter.unusedSimpArgs false
noncomputable section
open Go.IntKind(i8 i16 i32 i64 u8 u16 u32 u64)
open List renaming map_cons->bVN,getElem?_map->bVS,getElem?_take_of_lt->bVT,mem_cons_self->bVV,mem_of_getElem?->bVX,mem_cons_of_mem->bVZ,getElem?_drop->bWB,getElem?_eq_getElem->bWF,mem_singleton->bWG,map_nil->bWH,map_toArray->bWJ,getElem?_of_mem->bWO,map_append->bWP,mem_append->bWR,length_append->bWS,getElem?_append_left->bWU,getElem?_append_right->bWV,mem_cons->bWW,mapM_cons->bWX,map_congr_left->bWZ,range->bXB,length_map->bXC,size_toArray->bXE,take_left->bXF,cons_append->bXH,getD->bXI,append_assoc->bXJ,getElem?_eq_none->bXK,getElem?_cons_succ->bXL,Pairwise->bXN,mem_range->bXQ,replicate->bXR,eq_nil_of_length_eq_zero->bYD,length_take->bYE,mem_append_right->bYF,drop_left->bYG,flatMap_def->bYK
open Nat renaming le_refl->bVO,beq->bVP,zero_add->bVQ,ble->bVR,mul_one->bVY,blt->bWA,eq_of_beq_eq_true->bWD,lt_or_ge->bWE,add_mul->bWI,le_trans->bWK,lt_of_lt_of_le->bWL,add_zero->bWM,exists_eq_add_of_le->bWT,mul_le_mul_right->bXD,le_of_ble_eq_true->bXM,ne_of_beq_eq_false->bXS,le_mul_of_pos_right->bXX,mul_le_mul_left->bYC,le_of_not_lt->bYI,add_one_ne_zero->bYM,add_sub_cancel->bYN
open Bool renaming and_eq_true->bVU,not_eq_true'->bWY,or_eq_true->bXA,not_true->bXO,false_or->bXP
open Option renaming bind_assoc->bVW,map_some->bWC,map_eq_some_iff->bWQ,bind_some->bXG,bind_eq_bind->bXT,pure_def->bXU,bind_eq_some_iff->bXV,map_none->bXZ,getD_some->bYL
open Int renaming mul_le_mul_of_nonneg_right->bXY
namespace Go.Proofs.YtplagoepbghhpaaGreatDoor
theorem aU{α:Sort _}{c:Prop}[Decidable c]{a b:α}(h:c:=by omega):ite c a b=a:=if_pos h
theorem aW{α:Sort _}{c:Prop}[Decidable c]{a b:α}(h:¬c:=by omega):ite c a b=b:=if_neg h
theorem cX{a n:Nat}(h:0<a:=by omega):0<a^n:=Nat.pow_pos h
theorem gO{b m n:Nat}(h:0<b:=by omega)(h':m<=n:=by omega):b^m<=b^n:=Nat.pow_le_pow_right h h'
namespace M
open Go
theorem Hf(n:Int):i64.wrap n=if n%18446744073709551616>=9223372036854775808 then n%18446744073709551616-18446744073709551616 else n%18446744073709551616:=by
 show(if(true&&decide (n%18446744073709551616>=9223372036854775808))=true then n%18446744073709551616-18446744073709551616 else n%18446744073709551616)=_;simp only[Bool.true_and,decide_eq_true_eq]
theorem wrap_i64{n:Int}(h:-9223372036854775808<=n:=by omega)(h':n<9223372036854775808:=by omega):i64.wrap n=n:=by
 rw[Hf];split <;> omega
theorem fJ(n:Int):u64.wrap n=n%18446744073709551616:=by
 show(if(false&&decide (n%18446744073709551616>=9223372036854775808))=true then n%18446744073709551616-18446744073709551616 else n%18446744073709551616)=_;simp
theorem wrap_u64{n:Int}(h:0<=n:=by omega)(h':n<18446744073709551616:=by omega):u64.wrap n=n:=by
 rw[fJ];omega
end M
namespace AI
open Go Go.RowKit
def leB:Int->Int->Bool
 | .ofNat m,.ofNat n=>bVR m n
 | .negSucc _,.ofNat _=>true
 | .ofNat _,.negSucc _=>false
 | .negSucc m,.negSucc n=>bVR n m
theorem Jc(a b:Int):leB a b=true↔a<=b:=by
 cases a <;> cases b <;> simp only[leB,Nat.ble_eq,Bool.false_eq_true,true_iff,false_iff,Int.ofNat_eq_natCast] <;> omega
instance (priority:=2000) decLeI (a b:Int):Decidable (a<=b):=match h:leB a b with
 |true=>isTrue ((Jc a b).1 h)
 |false=>isFalse fun h'=>by rw[(Jc a b).2 h']at h;cases h
instance (priority := 2000) decLtI (a b : Int) : Decidable (a < b) := match h : leB b a with
  | true => isFalse fun h' => by have := (Jc b a).1 h; omega
  | false => isTrue (by have h1 : ¬ b ≤ a := fun h' => by rw [(Jc b a).2 h'] at h; cases h
                        omega)
inductive S where
 |sc (v:Value)
 |ints (k:IntKind) (ns:List Int)
 |bot
 |pt (x:Value)
 |Sr (f:FuncId) (xs:List Value)
inductive L where
 |s (x:S)
 |rows (sz n:Nat) (f:Nat->List S)
 |Oe (cs:List S)
 |Ta (k:IntKind) (ns:List Int)
 |ptr (id off:Nat)
 |Rr (id i:Nat)
 |buf (id n:Nat)
 |view (id off n:Nat)
inductive V where
 |one (l:L)
 |agg (cs:List S)
inductive A where
 |v (x:V)
 |Jp (xs:List V)
 |any
inductive wX where
 |ints (k:IntKind) (ns:List Int)
 |cells (cs:List S)
structure jT where
 e:TypeId
 cont:wX
structure St where
 fr:Nat->A
 hp:Nat->Option jT
 n:Nat
inductive D where
 |s (x:S)
 |rows (sz n:Nat) (f:Nat->List S)
 |agg (cs:List S)
 |own (e:TypeId) (k:IntKind) (ns:List Int)
 |io (e:TypeId) (k:IntKind) (ns:List Int) (off n:Nat)
 |back (i off n:Nat)
inductive TK where
 |bool
 |int (k:IntKind)
 |float (k:FloatKind)
 |other
 |struct (fs:List (Nat×Nat×Bool))
 |arr (len pQ:Nat) (eagg:Bool)
 |slice (elem:TypeId)
 |str
structure TI where
 size:Nat
 bytes:Nat
 zero:List Value
 kind:TK
def TK.isAgg:TK->Bool
 | .struct _=>true
 | .arr _ _ _=>true
 |_=>false
abbrev Bo(v:Value):A:=.v (.one (.s (.sc v)))
abbrev Ay{α:Type}(f:Nat->α)(d:Nat)(a:α):Nat->α:=fun i=>bif bVP i d then a else f i
def bitsI0(op:BinOp)(k:IntKind)(x y:Int):Int :=
 match op with
 | .and=>k.wrap (BitVec.ofInt k.bits x &&& BitVec.ofInt k.bits y).toNat
 | .or=>k.wrap (BitVec.ofInt k.bits x |||BitVec.ofInt k.bits y).toNat
 | .xor=>k.wrap (BitVec.ofInt k.bits x ^^^ BitVec.ofInt k.bits y).toNat
 |_=>k.wrap (BitVec.ofInt k.bits x &&& ~~~(BitVec.ofInt k.bits y)).toNat
theorem Wx:∃f:BinOp->IntKind->Int->Int->Int,f=bitsI0:=⟨_,rfl⟩
def gA:BinOp->IntKind->Int->Int->Int:=Classical.choose Wx
theorem wS:gA=bitsI0:=Classical.choose_spec Wx
def binK{R:Type}(op:BinOp)(x y:Value)(K:Value->Option R):Option R :=
 match x,y with
 | .int k a,.int k' b =>
  match op with
  | .shl=>if b<0 then none else K (.int k (k.wrap (a*((2^(min b.toNat k.bits):Nat):Int))))
  | .shr=>if b<0 then none else K (.int k (a/((2^(min b.toNat k.bits):Nat):Int)))
  | .add=>if k=k' then K (.int k (k.wrap (a+b)))else none
  | .sub=>if k=k' then K (.int k (k.wrap (a-b)))else none
  | .mul=>if k=k' then K (.int k (k.wrap (a*b)))else none
  | .quo=>if k=k' then(if b=0 then none else K (.int k (k.wrap (a.tdiv b))))else none
  | .rem=>if k=k' then(if b=0 then none else K (.int k (a.tmod b)))else none
  | .and=>if k=k' then K (.int k (gA .and k a b))else none
  | .or=>if k=k' then K (.int k (gA .or k a b))else none
  | .xor=>if k=k' then K (.int k (gA .xor k a b))else none
  | .andNot=>if k=k' then K (.int k (gA .andNot k a b))else none
  | .eql=>if k=k' then K (.bool (a==b))else none
  | .neq=>if k=k' then K (.bool (a !=b))else none
  | .lss=>if k=k' then K (.bool (decide (a<b)))else none
  | .leq=>if k=k' then K (.bool (decide (a<=b)))else none
  | .gtr=>if k=k' then K (.bool (decide (b<a)))else none
  | .geq=>if k=k' then K (.bool (decide (b<=a)))else none
 | .float k a,.float k' b =>
  match op with
  | .add=>if k=k' then(k.format.add a b).bind fun r=>K (.float k r)else none
  | .sub=>if k=k' then(k.format.sub a b).bind fun r=>K (.float k r)else none
  | .mul=>if k=k' then(k.format.mul a b).bind fun r=>K (.float k r)else none
  | .quo=>if k=k' then(k.format.div a b).bind fun r=>K (.float k r)else none
  | .eql=>if k=k' then K (.bool (k.format.order a b==some .eq))else none
  | .neq=>if k=k' then K (.bool (k.format.order a b !=some .eq))else none
  | .lss=>if k=k' then K (.bool (k.format.order a b==some .lt))else none
  | .leq=>if k=k' then K (.bool (k.format.order a b==some .lt||k.format.order a b==some .eq))else none
  | .gtr=>if k=k' then K (.bool (k.format.order a b==some .gt))else none
  | .geq=>if k=k' then K (.bool (k.format.order a b==some .gt||k.format.order a b==some .eq))else none
  |_=>none
 | .bool a,.bool b =>
  match op with
  | .eql=>K (.bool (a==b))
  | .neq=>K (.bool (a !=b))
  |_=>none
 |_,_=>none
def boolT(t:Option TI)(a:Value):Bool:=match a with
 | .bool _=>match t with
  |some ⟨_,_,_,.bool⟩=>true
  |_=>false
 |_=>true
def unK{R:Type}(op:UnOp)(x:Value)(K:Value->Option R):Option R :=
 match op,x with
 | .neg,.int k n=>K (.int k (k.wrap (0-n)))
 | .xor,.int k n=>K (.int k (gA .xor k (if k.signed then -1 else k.max) n))
 | .neg,.float k b=>K (.float k (Op.negFloat k b))
 | .not,.bool b=>K (.bool (!b))
 |_,_=>none
def convK{R:Type}(dst:TK)(x:Value)(K:Value->Option R):Option R :=
 match dst,x with
 | .int k,.int _ n=>K (.int k (k.wrap n))
 | .float k,.int _ n=>K (.float k (k.nearest n))
 | .int k,.float s b=>((s.decode b).toInt .zero).bind fun n=>if k.min<=n/\n<=k.max then K (.int k n)else none
 | .float k,.float s b=>if s=k then K (.float k b)else none
 |_,_=>none
def refsL:L->List Nat
 | .ptr id _=>[id]
 | .Rr id _=>[id]
 | .buf id _=>[id]
 | .view id _ _=>[id]
 |_=>[]
def refsV:V->List Nat
 | .one l=>refsL l
 | .agg _=>[]
def refs:A->List Nat
 | .v x=>refsV x
 | .Jp xs=>xs.flatMap refsV
 | .any=>[]
def cellsOf(hp:Nat->Option jT):A->Option (List S×List (Nat×Option jT))
 | .v (.agg cs)=>some (cs,[])
 | .v (.one (.s x))=>some ([x],[])
 | .v (.one (.buf id _))=>match hp id with
  |some ⟨_,.ints k ns⟩=>some ([.ints k ns],[(id,none)])
  |_=>none
 | .v (.one (.view id off n))=>match hp id with
  |some ⟨_,.ints k ns⟩=>some ([.ints k ((ns.drop off).take n)],[(id,none)])
  |_=>none
 |_=>none
def toD(hp:Nat->Option jT):A->Option D
 | .v (.agg cs)=>some (.agg cs)
 | .v (.one (.s x))=>some (.s x)
 | .v (.one (.rows sz n f))=>some (.rows sz n f)
 | .v (.one (.buf id n))=>match hp id with
  |some ⟨_,.ints k ns⟩=>some (.s (.ints k ns))
  |some ⟨_,.cells cs⟩=>if n*(cs.length/n)=cs.length/\0<n then some (.rows (cs.length/n) n fun i=>(cs.drop (i*(cs.length/n))).take (cs.length/n))else none
  |none=>none
 | .v (.one (.view id off n))=>match hp id with
  |some ⟨_,.ints k ns⟩=>some (.s (.ints k ((ns.drop off).take n)))
  |_=>none
 |_=>none
def setAt(cs:List S)(off:Nat)(new:List S):List S:=cs.take off ++ (new ++ cs.drop (off+new.length))
def fillK{R:Type}(hp:Nat->Option jT)(place:Nat->Option (Nat×Nat))(ev:Operand->A):List (Nat×Operand)->List S->List (Nat×Option jT)->(List S->List (Nat×Option jT)->Option R)->Option R
 | [],cs,aOA,K=>K cs aOA
 | (i,x) :: rest,cs,aOA,K =>
  match place i,cellsOf hp (ev x)with
  |some (off,size),some (new,u)=>if new.length=size/\off+new.length<=cs.length then fillK hp place ev rest (setAt cs off new) (aOA ++ u) K else none
  |_,_=>none
def partOf(ti:TI)(cs:List S)(off:Nat):Option V :=
 if _g:ti.kind.isAgg=true then(if _h:off+ti.size<=cs.length then some (.agg ((cs.drop off).take ti.size))else none)
 else match cs[off]? with
  |some c=>some (.one (.s c))
  |none=>none
def allInts(k:IntKind):List S->Option (List Int)
 | []=>some []
 | .sc (.int k' n) :: r=>if _h:k=k' then(allInts k r).map (n :: ·)else none
 |_ :: _=>none
def intsOf(hp:Nat->Option jT)(k:IntKind):A->Option (List Int)
 | .v (.one (.s (.ints k' ns)))=>if _h:k=k' then some ns else none
 | .v (.one (.s (.sc (.slice none 0 0))))=>some []
 | .v (.one (.buf id _))=>match hp id with
  |some ⟨_,.ints k' ns⟩=>if _h:k=k' then some ns else none
  |_=>none
 | .v (.one (.view id off n))=>match hp id with
  |some ⟨_,.ints k' ns⟩=>if _h:k=k' then some ((ns.drop off).take n)else none
  |_=>none
 |_=>none
def room:Int:=8796093022208
def takeIn(keep:Bool)(id:Nat):D->V×List (Nat×Option jT)
 | .s x=>(.one (.s x),[])
 | .rows sz n f=>(.one (.rows sz n f),[])
 | .agg cs=>(.agg cs,[])
 | .own e k ns=>bif keep then(.one (.buf id ns.length),[(id,some ⟨e,.ints k ns⟩)])else(.one (.s (.ints k ns)),[])
 | .io _ _ _ _ _=>(.one (.s .bot),[])
 | .back i off n=>(.one (.view i off n),[])
def takeAll(keep:Bool)(id:Nat):List D->List V×List (Nat×Option jT)
 | []=>([],[])
 |d :: r=>((takeIn keep id d).1 :: (takeAll keep (id+1) r).1,(takeIn keep id d).2 ++ (takeAll keep (id+1) r).2)
def Io:S->Bool
 | .ints _ _=>true
 | .bot=>true
 | .pt _=>true
 | .Sr _ _=>true
 | .sc (.slice (some _) _ _)=>true
 |_=>false
def shares:D->Bool
 | .s x=>Io x
 | .rows _ _ _=>true
 | .agg cs=>cs.any Io
 | .own _ _ _=>false
 | .io _ _ _ _ _=>true
 | .back _ _ _=>false
structure Env where
 T:TypeId->Option TI
 C:FuncId->List D->Option (Prop×List D)
 ext:FuncId->List Value->Option (Prop×List Value)
 glob:Nat->Option (IntKind×List Int)
 nt:Nat
 own:List Nat
 keep:Nat->List Nat
 roll:Nat->Option Nat
 cut:Nat->Option (List Nat)
 n0:Nat:=0
 io:List Nat:=[]
 ioF:FuncId->List Nat:=fun _=>[]
 wide:Option IntKind:=none
 short:Bool:=false
def wideS(w:Option IntKind)(v:Value):S:=match w with
 |none=>.sc v
 |some k=>match v with
  | .slice none 0 0=>.ints k []
  |v=>.sc v
def evA(E:Env)(fr:Nat->A):Operand->A
 | .tmp t=>fr t
 | .const v=>if _h:v.oneCell'=true then Bo v else .any
 | .global g=>match E.glob g with
  |some (k,ns)=>.v (.one (.Ta k ns))
  |none=>.any
 | .func f=>Bo (.func (.func f) #[] #[])
def funOf:A->Option FuncId
 | .v (.one (.s (.sc (.func (.func f) ⟨[]⟩ ⟨[]⟩))))=>some f
 |_=>none
def cloOf:A->Option (FuncId×List Value)
 | .v (.one (.s (.Sr f xs)))=>some (f,xs)
 |_=>none
abbrev bPT(x:Value):A:=.v (.one (.s (.pt x)))
abbrev pS:=List (Nat×Option jT)
def capsOf(hp:Nat->Option jT):List A->Option (List Value×pS)
 | []=>some ([],[])
 | .v (.one (.ptr i 0)) :: r=>match hp i,capsOf hp r with
  |some ⟨_,.cells [.sc x]⟩,some (xs,u)=>some (x :: xs,(i,none) :: u)
  |_,_=>none
 |_=>none
def bndA(d:Int):Option A->Option Int
 |none=>some d
 |some (.v (.one (.s (.sc (.int _ n)))))=>some n
 |_=>none
def sliceK{R:Type}(len:Nat)(lo hi mx:Option A)(K:Nat->Nat->Option R):Option R :=
 match bndA 0 lo,bndA len hi,mx with
 |some l,some h,none=>if 0<=l/\l<=h/\h<=len then K l.toNat h.toNat else none
 |some l,some h,some mx=>match hi,bndA len (some mx)with
  |some _,some m=>if 0<=l/\l<=h/\h<=m/\m<=len then K l.toNat h.toNat else none
  |_,_=>none
 |_,_,_=>none
abbrev aB{R:Type}(b:Bool)(x y:Option R):Option R:=bif b then x else y
def splitN{R:Type}(n:Int):Nat->Nat->(Nat->Option R)->Option R
 |0,_,_=>none
 |m+1,j,K=>aB (decide (n=(j:Int))) (K j) (splitN n m (j+1) K)
def idxK{R:Type}(hp:Nat->Option jT)(t:TI)(pQ:Nat)(x:A)(n:Int)(K:A->Option R):Option R :=
 match x with
 | .v (.one (.s (.ints k ns)))=>if pQ=1 then(if 0<=n/\n<(ns.length:Int)then K (.v (.one (.Oe [.sc (.int k (ns.getD n.toNat 0))])))else none)else none
 | .v (.one (.buf id m))=>match hp id with
  |some ⟨_,.ints _ _⟩=>if pQ=1 then(if 0<=n/\n<(m:Int)then K (.v (.one (.Rr id n.toNat)))else none)else none
  |some ⟨_,.cells _⟩=>if 0<=n/\n<(m:Int)then K (.v (.one (.ptr id (n.toNat*pQ))))else none
  |none=>none
 | .v (.one (.view id off m))=>match hp id with
  |some ⟨_,.ints _ _⟩=>if pQ=1 then(if 0<=n/\n<(m:Int)then K (.v (.one (.Rr id (off+n.toNat))))else none)else none
  |_=>none
 | .v (.one (.rows sz m f))=>if sz=pQ then(if 0<=n/\n<(m:Int)then K (.v (.one (.Oe (f n.toNat))))else none)else none
 | .v (.one (.ptr id off))=>match t.kind with
  | .arr len _ _=>bif bVR len 8 then splitN n len 0 (fun j=>K (.v (.one (.ptr id (off+j*pQ)))))else if 0<=n/\n<(len:Int)then K (.v (.one (.ptr id (off+n.toNat*pQ))))else none
  |_=>none
 | .v (.one (.Ta k ns))=>match t.kind with
  | .arr len _ _=>if ns.length=len/\pQ=1 then(if 0<=n/\n<(len:Int)then K (.v (.one (.Oe [.sc (.int k (ns.getD n.toNat 0))])))else none)else none
  |_=>none
 |_=>none
def idxS{R:Type}(sh:Bool)(hp:Nat->Option jT)(t:TI)(pQ:Nat)(x:A)(n:Int)(K:A->Option R):Option R:=match sh,x with
 |true,.v (.one (.buf id m))=>match hp id with
  |some ⟨_,.cells cs⟩=>splitN n (cs.length/pQ) 0 fun j=>idxK hp t pQ (.v (.one (.buf id m))) (j:Int) K
  |_=>idxK hp t pQ (.v (.one (.buf id m))) n K
 |_,x=>idxK hp t pQ x n K
def intArg:A->Option (IntKind×Int)
 | .v (.one (.s (.sc (.int k n))))=>some (k,n)
 |_=>none
def foldMM(op:BinOp)(k:IntKind):Int->List A->Option Int
 |n,[]=>some n
 |n,.v (.one (.s (.sc (.int k' m)))) :: r=>if _h:k=k' then foldMM op k (match op with | .gtr=>if m>n then m else n |_=>if m<n then m else n) r else none
 |_,_=>none
def lenA:A->Option Nat
 | .v (.one (.s (.ints _ ns)))=>some ns.length
 | .v (.one (.s (.sc (.slice none 0 0))))=>some 0
 | .v (.one (.buf _ n))=>some n
 | .v (.one (.view _ _ n))=>some n
 | .v (.one (.rows _ n _))=>some n
 |_=>none
def argVals:List A->Option (List Value)
 | []=>some []
 | .v (.one (.s (.sc v))) :: r=>(argVals r).map (v :: ·)
 |_ :: _=>none
def Hg(s:ByteArray)(n:Int):Int:=match s[n.toNat]? with
 |some b=>b.toNat
 |none=>0
def bAC:List Value->A
 | [v]=>Bo v
 |vs=>.Jp (vs.map fun v=>.one (.s (.sc v)))
def keepOf(E:Env)(o:Oper):Bool:=match o.dst with
 |some d=>E.own.contains d
 |none=>false
open Classical in
def aO {R:Type} (g:Prop) (a:Option R):Option R:=if g then a else none
def aC{α R:Type}(x:α)(k:α->Option R):Option R:=k x
theorem aG{α R:Type}(x:α)(k:α->Option R):aC x k=k x:=rfl
def shS{R:Type}(s:S)(K:S->Option R):Option R:=match s with
 | .sc (.int k n)=>aC n fun n=>K (.sc (.int k n))
 | .sc (.bool b)=>aC b fun b=>K (.sc (.bool b))
 | .sc (.float k b)=>aC b fun b=>K (.sc (.float k b))
 | .ints k ns=>aC ns fun ns=>K (.ints k ns)
 |s=>K s
def shCs{R:Type}:List S->(List S->Option R)->Option R
 | [],K=>K []
 |s :: r,K=>shS s fun s=>shCs r fun r=>K (s :: r)
def shD{R:Type}(d:D)(K:D->Option R):Option R:=match d with
 | .s x=>shS x fun x=>K (.s x)
 | .agg cs=>shCs cs fun cs=>K (.agg cs)
 | .own e k ns=>aC ns fun ns=>K (.own e k ns)
 | .io e k ns off n=>aC ns fun ns=>K (.io e k ns off n)
 |d=>K d
def shDs{R:Type}:List D->(List D->Option R)->Option R
 | [],K=>K []
 |d :: r,K=>shD d fun d=>shDs r fun r=>K (d :: r)
theorem aJC{R:Type}(s:S)(K:S->Option R):shS s K=K s:=by
 unfold shS;split <;> rfl
theorem aBT{R:Type}:∀(cs:List S) (K:List S->Option R),shCs cs K=K cs
 | [],_=>rfl
 |s :: r,K=>by unfold shCs;rw[aJC,aBT r]
theorem aUM{R:Type}(d:D)(K:D->Option R):shD d K=K d:=by
 unfold shD;split
 ·exact aJC _ _
 ·exact aBT _ _
 ·rfl
 ·rfl
 ·rfl
theorem Dp{R:Type}:∀(ds:List D) (K:List D->Option R),shDs ds K=K ds
 | [],_=>rfl
 |d :: r,K=>by unfold shDs;rw[aUM,Dp r]
def Of(xs ys:List Nat):Bool:=xs.all fun x=>!(ys.elem x)
def nodup:List Nat->Bool
 | []=>true
 |x :: r=>!(r.elem x)&&nodup r
def toIO(hp:Nat->Option jT):A->Option (Nat×D)
 | .v (.one (.buf id n))=>match hp id with
  |some ⟨e,.ints k ns⟩=>some (id,.io e k ns 0 n)
  |_=>none
 | .v (.one (.view id off n))=>match hp id with
  |some ⟨e,.ints k ns⟩=>some (id,.io e k ns off n)
  |_=>none
 |_=>none
def argsIO(ps:List Nat)(hp:Nat->Option jT):Nat->List A->Option (List (Nat×Nat)×List D)
 |_,[]=>some ([],[])
 |i,a :: r=>bif ps.elem i then(match toIO hp a with
   |some (id,d)=>match argsIO ps hp (i+1) r with
    |some (us,ds)=>some ((i,id) :: us,d :: ds)
    |none=>none
   |none=>none)
  else(match toD hp a with
   |some d=>match argsIO ps hp (i+1) r with
    |some (us,ds)=>some (us,d :: ds)
    |none=>none
   |none=>none)
def oT(ps:List Nat):Nat->List A->List Nat
 |_,[]=>[]
 |i,a :: r=>(bif ps.elem i then []else refs a) ++ oT ps (i+1) r
def leqN:List Nat->List Nat->Bool
 | [],[]=>true
 |a :: r,b :: s=>bVP a b&&leqN r s
 |_,_=>false
def backIO:List (Nat×Nat)->List D->Option pS
 | [],[]=>some []
 | (_,id) :: us,.io e k ns _ _ :: ds=>match backIO us ds with
  |some u=>some ((id,some ⟨e,.ints k ns⟩) :: u)
  |none=>none
 |_,_=>none
def idAt:List (Nat×Nat)->Nat->Nat
 | [],_=>0
 |q :: us,p=>bif bVP q.1 p then q.2 else idAt us p
def reBack(us:List (Nat×Nat)):D->D
 | .back p off n=>.back (idAt us p) off n
 |d=>d
def callIO{R:Type}(E:Env)(ps:List Nat)(id:Nat)(keep:Bool)(f:FuncId)(args:List A)(hp:Nat->Option jT)(K:A->pS->Option R):Option R :=
 match argsIO ps hp 0 args with
 |none=>none
 |some (us,ds)=>bif leqN (us.map (·.1)) ps&&(nodup (us.map (·.2))&&Of (us.map (·.2)) (oT ps 0 args))then
  match E.C f ds with
  |none=>none
  |some (g,rs) =>
   aO g (shDs rs fun rs=>bif bVR us.length rs.length&&bVR rs.length 8&&!((rs.take (rs.length-us.length)).any shares)then
   match backIO us (rs.drop (rs.length-us.length))with
   |none=>none
   |some ub =>
    let r:=takeAll keep id ((rs.take (rs.length-us.length)).map (reBack us))
    match r.1 with
    | [x]=>K (.v x) (ub ++ r.2)
    |xs=>K (.Jp xs) (ub ++ r.2)
   else none)
  else none
def callK{R:Type}(E:Env)(id:Nat)(keep:Bool)(f:FuncId)(args:List A)(hp:Nat->Option jT)(K:A->pS->Option R):Option R :=
 match args.mapM (toD hp)with
 |none=>none
 |some ds=>match E.C f ds with
  |none=>none
  |some (g,rs) =>
   aO g (shDs rs fun rs=>bif bVR rs.length 8 then
   let r:=takeAll keep id rs
   let aOA:=(bif rs.any shares then(args.flatMap refs).map fun i=>(i,none)else []) ++ r.2
   match r.1 with
   | [x]=>K (.v x) aOA
   |xs=>K (.Jp xs) aOA
   else none)
def appCells{R:Type}(n0 id:Nat)(e:TypeId)(te:TI)(s x:A)(hp:Nat->Option jT)(K:A->pS->Option R):Option R:=match x with
 | .v (.one (.buf j m))=>match hp j with
  |some ⟨_,.cells new⟩=>if 0<m/\new.length=m*te.size then(match s with
   | .v (.one (.buf i n))=>match hp i with
    |some ⟨e',.cells cs⟩=>if e=e'/\n0<=i/\0<n/\cs.length=n*te.size/\(n+m)*te.bytes<=1073741824/\n+m<=1073741824 then K (.v (.one (.buf id (n+m)))) [(i,none),(id,some ⟨e,.cells (cs ++ new)⟩)]else none
    |_=>none
   | .v (.one (.s (.sc (.slice none 0 0))))=>if m*te.bytes<=1073741824/\m<=1073741824 then K (.v (.one (.buf id m))) [(id,some ⟨e,.cells new⟩)]else none
   |_=>none)else none
  |_=>none
 |_=>none
def builtinK{R:Type}(E:Env)(id:Nat)(b:Builtin)(args:List A)(wY:List TypeId)(hp:Nat->Option jT)(K:A->pS->Option R):Option R :=
 match b,args,wY with
 | .len,[x],[t]=>match E.T t,lenA x with
  |some ⟨_,_,_,.slice _⟩,some n=>K (Bo (.int .i64 n)) []
  |some ⟨_,_,_,.arr n _ _⟩,_=>K (Bo (.int .i64 n)) []
  |_,_=>none
 | .max,.v (.one (.s (.sc (.int k n)))) :: r,_=>match foldMM .gtr k n r with
  |some m=>K (Bo (.int k m)) []
  |none=>none
 | .min,.v (.one (.s (.sc (.int k n)))) :: r,_=>match foldMM .lss k n r with
  |some m=>K (Bo (.int k m)) []
  |none=>none
 | .append,[s,x],[t,t']=>if t=t' then
   match E.T t with
   |some ⟨_,_,_,.slice e⟩=>match E.T e with
    |some ⟨1,bytes,_,.int k⟩=>if bytes<=8 then
      match s,intsOf hp k x with
      | .v (.one (.buf i _)),some ms=>match hp i with
       |some ⟨e',.ints k' ns⟩=>bif bWA i E.n0 then none else if e=e'/\k=k' then(if 0<ms.length/\((ns.length+ms.length:Nat):Int)<=room then K (.v (.one (.buf id (ns.length+ms.length)))) [(i,none),(id,some ⟨e,.ints k (ns ++ ms)⟩)]else none)else none
       |_=>none
      | .v (.one (.s (.sc (.slice none 0 0)))),some ms=>if 0<ms.length/\(ms.length:Int)<=room then K (.v (.one (.buf id ms.length))) [(id,some ⟨e,.ints k ms⟩)]else none
      |_,_=>none
     else none
    |some te=>appCells E.n0 id e te s x hp K
    |none=>none
   |_=>none
  else none
 | .copy,[d,s],[t,_] =>
   match E.T t with
   |some ⟨_,_,_,.slice e⟩=>match E.T e with
    |some ⟨1,_,_,.int k⟩ =>
      match d,intsOf hp k s with
      | .v (.one (.buf i n)),some ms=>match hp i with
       |some ⟨e',.ints k' ns⟩=>if k=k' then K (Bo (.int .i64 (min ms.length n:Nat))) [(i,some ⟨e',.ints k (ms.take n ++ ns.drop (min ms.length n))⟩)]else none
       |_=>none
      | .v (.one (.view i off n)),some ms=>match hp i with
       |some ⟨e',.ints k' ns⟩=>if k=k'/\off+n<=ns.length then K (Bo (.int .i64 (min ms.length n:Nat))) [(i,some ⟨e',.ints k (ns.take off ++ (ms.take n ++ ns.drop (off+min ms.length n)))⟩)]else none
       |_=>none
      |_,_=>none
    |_=>none
   |_=>none
 |_,_,_=>none
inductive EK where
 |int (k:IntKind)
 |bool
 |float (k:FloatKind)
def Dz:List Value->Option (List EK)
 | []=>some []
 | .int k _ :: r=>(Dz r).map (.int k :: ·)
 | .bool _ :: r=>(Dz r).map (.bool :: ·)
 | .float k _ :: r=>(Dz r).map (.float k :: ·)
 |_=>none
def xH(ti:TI):Option (List EK):=match ti.kind with
 | .struct fs=>if(fs.all fun f=>bVP f.2.1 1&&!f.2.2)=true then Dz ti.zero else none
 |_=>none
def eqCell:EK->S->S->Option Bool
 | .int k,.sc (.int k1 a),.sc (.int k2 b)=>if k1=k/\k2=k then some (a==b)else none
 | .bool,.sc (.bool a),.sc (.bool b)=>some (a==b)
 | .float k,.sc (.float k1 a),.sc (.float k2 b)=>if k1=k/\k2=k then some (k.format.order a b==some .eq)else none
 |_,_,_=>none
def eqInts:List EK->List S->List S->Option Bool
 | [],[],[]=>some true
 |k :: ks,c :: r,d :: r'=>match eqCell k c d with
  |some p=>(eqInts ks r r').map fun q=>p&&q
  |none=>none
 |_,_,_=>none
def eqAgg(t:Option TI)(cs ds:List S):Option Bool:=match t with
 |some ti=>match xH ti with
  |some ks=>eqInts ks cs ds
  |none=>none
 |none=>none
def aWY:List S->Option IntKind
 | .sc (.int k _) :: _=>some k
 |_=>none
def pickC(len m:Nat)(cs:List S):Option S:=match aWY cs with
 |some k=>match allInts k cs with
  |some ns=>bif bVP ns.length len then some (.sc (.int k (ns.getD m 0)))else cs[m]?
  |none=>cs[m]?
 |none=>cs[m]?
def aVI(len pQ n:Nat)(cs:List S):Option S:=bif bVP pQ 1 then pickC len n cs else cs[n*pQ]?
theorem Xf{k:IntKind}{cs:List S}:∀{ns:List Int},allInts k cs=some ns->∀m,m<ns.length->cs[m]?=some (.sc (.int k (ns.getD m 0))):=by
 induction cs with
 |nil=>intro ns h m hm;cases h;simp at hm
 |cons c r ih =>
  intro ns h m hm;unfold allInts at h;split at h
  ·rename_i heq;cases heq
  ·rename_i k' n r' heq;cases heq;split at h
   ·rename_i hk;subst hk;obtain⟨rs,hr,rfl⟩:=Option.map_eq_some_iff.1 h;cases m with
    |zero=>rfl
    |succ m=>simpa using ih hr m (by simpa using hm)
   ·cases h
  ·cases h
theorem aQE{len pQ:Nat}{n:Int}(cs:List S)(h:0<=n/\n<(len:Int)):aVI len pQ n.toNat cs=cs[n.toNat*pQ]?:=by
 unfold aVI;cases he:bVP pQ 1 with
 |false=>rfl
 |true =>
  have:=bWD he;subst this;rw[cond_true,bVY];unfold pickC;split
  ·rename_i k _;split
   ·rename_i ns aQI;cases hl:bVP ns.length len with
    |false=>rfl
    |true =>
     have:=bWD hl;rw[cond_true,Xf aQI n.toNat (by omega)]
   ·rfl
  ·rfl
def effK{R:Type}(E:Env)(id:Nat)(o:Oper)(ev:Operand->A)(hp:Nat->Option jT)(K:A->pS->Option R):Option R :=
 match o.op with
 | .move x=>K (ev x) []
 | .assign x=>K (ev x) []
 | .pick c a b=>match ev c with
  | .v (.one (.s (.sc (.bool t))))=>match ev a,ev b with
   | .v (.one (.s (.sc (.bool p)))),.v (.one (.s (.sc (.bool q))))=>K (Bo (.bool (bif t then p else q))) []
   |x,y=>bif t then K x []else K y []
  |_=>none
 | .alloc e=>match E.T e with
  |some ti=>K (.v (.one (.ptr id 0))) [(id,some ⟨e,.cells (ti.zero.map (wideS E.wide))⟩)]
  |none=>none
 | .box e x=>match E.T e,cellsOf hp (ev x)with
  |some ti,some (cs,u)=>if cs.length=ti.size then K (.v (.one (.ptr id 0))) (u ++ [(id,some ⟨e,.cells cs⟩)])else none
  |_,_=>none
 | .build t parts=>match E.T t with
  |some ⟨_,_,zero,.struct fs⟩=>fillK hp (fun i=>(fs[i]?).map fun f=>(f.1,f.2.1)) ev parts.toList (zero.map .sc) [] fun cs u=>K (.v (.agg cs)) u
  |some ⟨_,_,zero,.arr _ pQ _⟩=>fillK hp (fun i=>some (i*pQ,pQ)) ev parts.toList (zero.map .sc) [] fun cs u=>K (.v (.agg cs)) u
  |_=>none
 | .buildSlice t len parts=>match E.T t with
  |some ⟨_,_,_,.slice e⟩=>match E.T e with
   |some ⟨size,_,zero,kind⟩ =>
    if len*size<=16777216/\0<size then
    fillK hp (fun i=>some (i*size,size)) ev parts.toList ((bXB (len*size)).map fun i=>S.sc (zero.getD (i%size) undef)) [] fun cs u =>
     match kind,size with
     | .int k,1=>match allInts k cs with
      |some ns=>K (.v (.one (.buf id len))) (u ++ [(id,some ⟨e,.ints k ns⟩)])
      |none=>none
     |_,_=>K (.v (.one (.buf id len))) (u ++ [(id,some ⟨e,.cells cs⟩)])
    else none
   |none=>none
  |_=>none
 | .load t x=>match E.T t with
  |some ti=>match ev x with
   | .v (.one (.ptr i off))=>match hp i with
    |some ⟨_,.cells cs⟩=>match partOf ti cs off with
     |some v=>K (.v v) []
     |none=>none
    |_=>none
   | .v (.one (.Rr i j))=>match hp i,ti.kind.isAgg with
    |some ⟨_,.ints k ns⟩,false=>K (Bo (.int k (ns.getD j 0))) []
    |_,_=>none
   | .v (.one (.Oe cs))=>match partOf ti cs 0 with
    |some v=>K (.v v) []
    |none=>none
   | .v (.one (.s (.pt x)))=>match partOf ti [.sc x] 0 with
    |some v=>K (.v v) []
    |none=>none
   |_=>none
  |none=>none
 | .makeFunc (.func f) ⟨[]⟩ Gn=>match capsOf hp (Gn.toList.map ev)with
  |some (xs,u)=>K (.v (.one (.s (.Sr f xs)))) u
  |none=>none
 | .store t x y=>match E.T t with
  |some ti=>match ev x with
   | .v (.one (.ptr i off))=>match hp i,cellsOf hp (ev y)with
    |some ⟨e,.cells cs⟩,some (new,u)=>if new.length=ti.size/\off+new.length<=cs.length/\(u.all fun p=>p.1 !=i)=true then K .any (u ++ [(i,some ⟨e,.cells (setAt cs off new)⟩)])else none
    |_,_=>none
   | .v (.one (.Rr i j))=>match hp i,ev y with
    |some ⟨e,.ints k ns⟩,.v (.one (.s (.sc (.int k' n))))=>if k=k'/\ti.size=1 then K .any [(i,some ⟨e,.ints k (ns.set j n)⟩)]else none
    |_,_=>none
   |_=>none
  |none=>none
 | .binOp op t x y _=>match ev x,ev y with
  | .v (.one (.s (.sc a))),.v (.one (.s (.sc b)))=>bif boolT (E.T t) a then binK op a b fun r=>K (Bo r) []else none
  | .v (.agg cs),.v (.agg ds)=>match eqAgg (E.T t) cs ds with
   |some b=>match op with
    | .eql=>K (Bo (.bool b)) []
    | .neq=>K (Bo (.bool (!b))) []
    |_=>none
   |none=>none
  |_,_=>none
 | .unOp op _ x=>match ev x with
  | .v (.one (.s (.sc a)))=>unK op a fun r=>K (Bo r) []
  |_=>none
 | .convert s d x=>match E.T s,E.T d,ev x with
  |some _,some ti,.v (.one (.s (.sc a)))=>convK ti.kind a fun r=>K (Bo r) []
  |_,_,_=>none
 | .makeSlice t l c=>match E.T t,intArg (ev l),intArg (ev c)with
  |some ⟨_,_,_,.slice e⟩,some (_,a),some (_,b)=>match E.T e with
   |some ⟨1,bytes,[.int k0 z0],.int k⟩=>if bytes<=8/\0<bytes/\k0=k/\z0=0 then
     (if 0<=a/\a<=b/\b<=room then K (.v (.one (.buf id a.toNat))) [(id,some ⟨e,.ints k (bXR a.toNat 0)⟩)]else none)else none
   |_=>none
  |_,_,_=>none
 | .slice t x lo hi mx=>match E.T t with
  |some ⟨_,_,_,.slice e⟩=>match E.T e with
   |some ⟨1,_,_,.int k⟩=>match ev x with
    | .v (.one (.s (.ints k' ns)))=>if k=k' then sliceK ns.length (lo.map ev) (hi.map ev) (mx.map ev) fun l h=>K (.v (.one (.s (.ints k ((ns.take h).drop l))))) []else none
    | .v (.one (.s (.sc (.slice none 0 0))))=>sliceK 0 (lo.map ev) (hi.map ev) (mx.map ev) fun _ _=>K (.v (.one (.s (.ints k [])))) []
    | .v (.one (.buf i n))=>sliceK n (lo.map ev) (hi.map ev) (mx.map ev) fun l h=>K (.v (.one (.view i l (h-l)))) []
    | .v (.one (.view i off n))=>sliceK n (lo.map ev) (hi.map ev) (mx.map ev) fun l h=>K (.v (.one (.view i (off+l) (h-l)))) []
    |_=>none
   |some te=>match ev x with
    | .v (.one (.rows sz n f))=>if sz=te.size then sliceK n (lo.map ev) (hi.map ev) (mx.map ev) fun l h=>K (.v (.one (.rows sz (h-l) fun i=>f (l+i)))) []else none
    |_=>none
   |none=>none
  |_=>none
 | .fieldAddr t x f=>match E.T t with
  |some ⟨_,_,_,.struct fs⟩=>match fs[f]?,ev x with
   |some (off,size,_),.v (.one (.ptr i o))=>if 0<size then K (.v (.one (.ptr i (o+off)))) []else none
   |some (off,size,_),.v (.one (.Oe cs))=>if 0<size then K (.v (.one (.Oe (cs.drop off)))) []else none
   |_,_=>none
  |_=>none
 | .field t x f=>match E.T t with
  |some ⟨_,_,_,.struct fs⟩=>match fs[f]?,ev x with
   |some (off,size,g),.v (.agg cs)=>match (bif g then(if _h:off+size<=cs.length then some (V.agg ((cs.drop off).take size))else none)else(cs[off]?).map fun c=>V.one (.s c))with
    |some v=>K (.v v) []
    |none=>none
   |_,_=>none
  |_=>none
 | .indexAddr t x i=>match E.T t,intArg (ev i)with
  |some ti,some (_,n)=>match ti.kind with
   | .slice e=>match E.T e with
    |some te=>match ev x with
     | .v (.one (.ptr _ _))=>none
     | .v (.one (.Ta _ _))=>none
     |xa=>idxS E.short hp ti te.size xa n fun a=>K a []
    |none=>none
   | .arr _ pQ _=>match ev x with
    | .v (.one (.ptr i off))=>idxK hp ti pQ (.v (.one (.ptr i off))) n fun a=>K a []
    | .v (.one (.Ta k ns))=>idxK hp ti pQ (.v (.one (.Ta k ns))) n fun a=>K a []
    |_=>none
   |_=>none
  |_,_=>none
 | .index t x i=>match E.T t,ev x,intArg (ev i)with
  |some ⟨_,_,_,.arr len pQ g⟩,.v (.agg cs),some (_,n)=>if 0<=n/\n<len then
    match (bif g then(if _h:n.toNat*pQ+pQ<=cs.length then some (V.agg ((cs.drop (n.toNat*pQ)).take pQ))else none)else(aVI len pQ n.toNat cs).map fun c=>V.one (.s c))with
    |some v=>K (.v v) []
    |none=>none
   else none
  |some ⟨_,_,_,.str⟩,.v (.one (.s (.sc (.string s)))),some (_,n)=>if 0<=n/\n<(s.size:Int)then K (Bo (.int .u8 (Hg s n))) []else none
  |_,_,_=>none
 | .extract x i=>match ev x with
  | .Jp xs=>match xs[i]? with
   |some v=>K (.v v) []
   |none=>none
  |_=>none
 | .call ⟨.value fo,args,_⟩=>match funOf (ev fo)with
  |some f=>match (argVals (args.toList.map ev)).bind (E.ext f)with
   |some (g,vs)=>aO g (K (bAC vs) [])
   |none=>match E.ioF f with
    | []=>callK E id (keepOf E o) f (args.toList.map ev) hp K
    |p :: ps=>callIO E (p :: ps) id (keepOf E o) f (args.toList.map ev) hp K
  |none=>match cloOf (ev fo)with
   |some (f,xs)=>match E.ioF f with
    | []=>callK E id (keepOf E o) f (args.toList.map ev ++ xs.map bPT) hp K
    |_=>none
   |none=>none
 | .call ⟨.builtin b,args,wY⟩=>builtinK E id b (args.toList.map ev) wY.toList hp K
 |_=>none
def applyUps:pS->(Nat->Option jT)->Nat->Option jT
 | [],hp=>hp
 | (i,b) :: r,hp=>applyUps r (Ay hp i b)
def Cp(o:Oper)(a:A)(fr:Nat->A):Nat->A :=
 match o.dst with
 |some d=>Ay fr d a
 |none=>fr
def after(o:Oper)(st:St)(a:A)(u:pS):St:=⟨Cp o a st.fr,applyUps u st.hp,st.n⟩
def pV(E:Env)(id:Nat)(o:Oper)(ev:Operand->A)(hp:Nat->Option jT):Option (A×pS):=effK E id o ev hp fun a u=>some (a,u)
structure Rec where
 i:Nat
 o:Oper
 aID:List Nat
 aOA:List Nat
def tN(o:Oper)(ev:Operand->A)(u:pS):List Nat:=(o.op.operands.toList.flatMap fun x=>refs (ev x)) ++ u.map (·.1)
def befB(ops:Array Oper)(j:Nat):Nat->Oper->Bool
 |0,_=>false
 |n+1,o=>o.after.any fun e=>Region.binds .any e&&(e.on==j||(match ops[e.on]? with |some o'=>befB ops j n o' |none=>false))
def indep(ops:Array Oper)(r:Rec)(_i:Nat)(o:Oper)(aID aOA:List Nat):Bool :=
 (o.after.any fun e=>Region.binds .any e&&e.on==r.i)||(r.o.apart ops o&&Of r.aOA aID&&Of aOA r.aID)||befB ops r.i 3 o
def iT(nt:Nat)(o:Oper):Bool:=match o.dst with
 |some d=>bWA d nt
 |none=>true
def xR(i:Nat)(o:Oper):Bool:=o.after.all fun e=>!Region.binds .any e||bWA e.on i
def opsK{R:Type}(E:Env)(draw:Bool)(ops:Array Oper)(base:Nat):List Oper->Nat->List Rec->St->(St->Option R)->Option R
 | [],_,_,st,K=>K st
 |o :: rest,i,nW,st,K =>
  bif iT E.nt o&&(!draw||xR i o)then
  match o.guard with
  |none=>effK E (base+8*i) o (evA E st.fr) st.hp fun a u =>
    let t:=tN o (evA E st.fr) u
    bif !draw||nW.all fun r=>indep ops r i o t (u.map (·.1))then opsK E draw ops base rest (i+1) (⟨i,o,t,u.map (·.1)⟩ :: nW) (after o st a u) K else none
  |some (j,want)=>match (ops[j]?).bind (·.dst)with
   |some d=>match st.fr d with
    | .v (.one (.s (.sc (.bool b)))) =>
     let go (lit:Bool):Option R :=
      let fP:St:=⟨Ay st.fr d (Bo (.bool lit)),st.hp,st.n⟩
      bif lit==want then
       effK E (base+8*i) o (evA E fP.fr) fP.hp fun a u =>
        let t:=tN o (evA E fP.fr) u
        bif !draw||nW.all fun r=>indep ops r i o t (u.map (·.1))then opsK E draw ops base rest (i+1) (⟨i,o,t,u.map (·.1)⟩ :: nW) (after o fP a u) K else none
      else bif !draw||nW.all fun r=>indep ops r i o [] []then opsK E draw ops base rest (i+1) (⟨i,o,[],[]⟩ :: nW) (after o fP (.Jp []) []) K else none
     aB b (go true) (go false)
    | .Jp []=>bif !draw||nW.all fun r=>indep ops r i o [] []then opsK E draw ops base rest (i+1) (⟨i,o,[],[]⟩ :: nW) (after o st (.Jp []) []) K else none
    |_=>none
   |none=>none
  else none
inductive Ex where
 |normal
 |exit (id:Nat)
 |ret
abbrev KV:=A×Option jT
def aLO(st:St)(s:Nat):Option (Nat×A):=match st.fr s with
 | .v (.one (.buf i n))=>match st.hp i with
  |some ⟨_,.cells cs⟩=>if n*(cs.length/n)=cs.length/\0<n then some (i,.v (.one (.rows (cs.length/n) n fun j=>(cs.drop (j*(cs.length/n))).take (cs.length/n))))else none
  |_=>none
 |_=>none
def canonGo(n0:Nat)(st:St):List Nat->Nat->List Nat->List KV
 | [],_,_=>[]
 |s :: r,p,seen=>bif bVR 1000000 s then(match aLO st (s%1000000)with
   |some (i,a)=>bif seen.elem i then(.any,none) :: canonGo n0 st r (p+1) seen else(a,none) :: canonGo n0 st r (p+1) (i :: seen)
   |none=>(.any,none) :: canonGo n0 st r (p+1) seen)else
  match st.fr (s%1000000)with
  | .v (.one (.buf i n))=>bif seen.elem i then(.any,none) :: canonGo n0 st r (p+1) seen else(.v (.one (.buf p n)),st.hp i) :: canonGo n0 st r (p+1) (i :: seen)
  | .v (.one (.ptr i 0))=>bif seen.elem i then(.any,none) :: canonGo n0 st r (p+1) seen else(.v (.one (.ptr p 0)),st.hp i) :: canonGo n0 st r (p+1) (i :: seen)
  | .v (.one (.ptr _ _))=>(.any,none) :: canonGo n0 st r (p+1) seen
  | .v (.one (.Rr _ _))=>(.any,none) :: canonGo n0 st r (p+1) seen
  | .v (.one (.view i off n))=>bif bWA i n0 then(.v (.one (.view i off n)),none) :: canonGo n0 st r (p+1) seen else(.any,none) :: canonGo n0 st r (p+1) seen
  | .Jp _=>(.any,none) :: canonGo n0 st r (p+1) seen
  |a=>(a,none) :: canonGo n0 st r (p+1) seen
def canonIO(st:St):Nat->Nat->List KV
 |0,_=>[]
 |n+1,i=>(.any,st.hp i) :: canonIO st n (i+1)
def below:Nat->List Nat
 |0=>[]
 |n+1=>n :: below n
def canon(n0:Nat)(keep:List Nat)(st:St):List KV:=canonIO st n0 0 ++ canonGo n0 st keep n0 (below n0)
def slotGo(t:Nat):List Nat->List KV->A
 |s :: r,kv :: l=>bif bVP t (s%1000000)then kv.1 else slotGo t r l
 |_,_=>.any
def blkGo:Nat->List KV->Option jT
 |_,[]=>none
 |0,kv :: _=>kv.2
 |n+1,_ :: l=>blkGo n l
def mk(n0:Nat)(keep:List Nat)(l:List KV):St:=⟨fun t=>slotGo t keep (l.drop n0),fun i=>blkGo i l,n0+keep.length⟩
def keyOf:Code->Nat
 | .region id _ _=>id
 | .seq a _=>keyOf a
 | .block _ c=>keyOf c
 | .loop c=>keyOf c
 | .scope c=>keyOf c
 | .cond _ a _=>keyOf a
 |_=>0
section
variable {α R:Type}
def iter(G:(α->Option R)->α->Option R):Nat->α->Option R
 |0=>fun _=>none
 |n+1=>G (iter G n)
open Classical in
def fix (G:(α->Option R)->α->Option R) (a:α):Option R :=
 if h:∃r,∃n,iter G n a=some r then some (Classical.choose h)else none
end
abbrev roundOf{R:Type}(ec:Code->St->(Ex->St->Option R)->Option R)(n0:Nat)(keep:List Nat)(c:Code)(K:Ex->St->Option R)(rec:List KV->Option R)(l:List KV):Option R :=
 ec c (mk n0 keep l) fun ex fP=>match ex with
  | .normal=>rec (canon n0 keep fP)
  | .exit i=>K (.exit i) fP
  | .ret=>K .ret fP
def Bi{R:Type}(_key:Nat)(l:List KV)(k:List KV->Option R):Option R:=k l
def evalCode{R:Type}(E:Env):Code->St->(Ex->St->Option R)->Option R
 | .skip,st,K=>K .normal st
 | .label _,st,K=>K .normal st
 | .region _ ops draw,st,K=>opsK E draw ops st.n ops.toList 0 [] st fun fP=>K .normal ⟨fP.fr,fP.hp,st.n+8*ops.size⟩
 | .seq a b,st,K=>evalCode E a st fun ex fP=>match ex with
  | .normal=>match E.cut (keyOf b)with
   |some keep=>Bi (keyOf b) (canon E.n0 keep fP) fun l=>evalCode E b (mk E.n0 keep l) K
   |none=>evalCode E b fP K
  | .exit i=>K (.exit i) fP
  | .ret=>K .ret fP
 | .cond c a b,st,K=>match c with
  | .tmp s=>match st.fr s with
   | .v (.one (.s (.sc (.bool t))))=>aB t (evalCode E a ⟨Ay st.fr s (Bo (.bool true)),st.hp,st.n⟩ K) (evalCode E b ⟨Ay st.fr s (Bo (.bool false)),st.hp,st.n⟩ K)
   |_=>none
  | .const (.bool t)=>aB t (evalCode E a st K) (evalCode E b st K)
  |_=>none
 | .block id c,st,K=>evalCode E c st fun ex fP=>match ex with
  | .normal=>K .normal fP
  | .exit i=>bif bVP i id then K .normal fP else K (.exit i) fP
  | .ret=>K .ret fP
 | .exit id,st,K=>K (.exit id) st
 | .ret,st,K=>K .ret st
 | .loop c,st,K=>match E.roll (keyOf c)with
  |some n=>iter (fun rec l=>evalCode E c (mk E.n0 (E.keep (keyOf c)) l) fun ex fP=>match ex with
    | .normal=>rec (canon E.n0 (E.keep (keyOf c)) fP)
    | .exit i=>K (.exit i) fP
    | .ret=>K .ret fP) n (canon E.n0 (E.keep (keyOf c)) st)
  |none=>fix (fun rec l=>evalCode E c (mk E.n0 (E.keep (keyOf c)) l) fun ex fP=>match ex with
    | .normal=>rec (canon E.n0 (E.keep (keyOf c)) fP)
    | .exit i=>K (.exit i) fP
    | .ret=>K .ret fP) (canon E.n0 (E.keep (keyOf c)) st)
 | .scope c,st,K=>evalCode E c st K
 |_,_,_=>none
def resD(E:Env)(st:St):ResultVar->Option D
 | .tmp t=>match st.fr t with
  | .v (.agg cs)=>some (.agg cs)
  | .v (.one (.s x))=>some (.s x)
  | .v (.one (.buf i _))=>bif bWA i E.n0 then none else match st.hp i with
   |some ⟨e,.ints k ns⟩=>some (.own e k ns)
   |_=>none
  | .v (.one (.view i off n))=>bif E.io.elem i then some (.back i off n)else bif bWA i E.n0 then none else match st.hp i,off with
   |some ⟨e,.ints k ns⟩,0=>some (.own e k (ns.take n))
   |_,_=>none
  |_=>none
 | .cell t ty=>match st.fr t,E.T ty with
  | .v (.one (.ptr i off)),some ti=>match st.hp i with
   |some ⟨_,.cells cs⟩=>match partOf ti cs off with
    |some (.agg Ma)=>some (.agg Ma)
    |some (.one (.s x))=>some (.s x)
    |_=>none
   |_=>none
  |_,_=>none
def ownIds(st:St):List ResultVar->List Nat
 | []=>[]
 | .tmp t :: r=>(match st.fr t with | .v (.one (.buf i _))=>[i] | .v (.one (.view i _ _))=>[i] |_=>[]) ++ ownIds st r
 | .cell _ _ :: r=>ownIds st r
def bAS(st:St)(i:Nat):Option D:=match st.hp i with
 |some ⟨e,.ints k ns⟩=>some (.io e k ns 0 0)
 |_=>none
def qK(E:Env)(fn:Func)(ex:Ex)(st:St):Option (List D) :=
 match ex with
 | .exit _=>none
 |_=>bif nodup (ownIds st fn.results.toList)then(match E.io with
  | []=>fn.results.toList.mapM (resD E st)
  |p :: ps=>match fn.results.toList.mapM (resD E st),(p :: ps).mapM (bAS st)with
   |some rs,some is=>some (rs ++ is)
   |_,_=>none)else none
def bLE:D->A
 | .s x=>.v (.one (.s x))
 | .rows sz n f=>.v (.one (.rows sz n f))
 | .agg cs=>.v (.agg cs)
 | .own _ k ns=>.v (.one (.s (.ints k ns)))
 | .io _ _ _ _ _=>.any
 | .back _ _ _=>.any
def argAt(i:Nat):D->A
 | .io _ _ _ off n=>.v (.one (.view i off n))
 |d=>bLE d
def argFrI:Nat->List D->Nat->A
 |_,[],_=>.any
 |i,d :: _,0=>argAt i d
 |i,_ :: r,n+1=>argFrI (i+1) r n
abbrev Xc:List D->Nat->A:=argFrI 0
def argHp:Nat->List D->Nat->Option jT
 |_,[],_=>none
 |i,.io e k ns _ _ :: r,j=>bif bVP j i then some ⟨e,.ints k ns⟩else argHp (i+1) r j
 |i,_ :: r,j=>argHp (i+1) r j
def aH(E:Env)(fn:Func)(c:Code)(ds:List D):Option (List D) :=
 evalCode E c ⟨Xc ds,argHp 0 ds,E.n0⟩ (qK E fn)
def Yo{R:Type}(E:Env)(b:Code)(K:Ex->St->Option R)(ex:Ex)(fP:St):Option R:=match ex with
 | .normal=>match E.cut (keyOf b)with
  |some keep=>Bi (keyOf b) (canon E.n0 keep fP) fun l=>evalCode E b (mk E.n0 keep l) K
  |none=>evalCode E b fP K
 | .exit i=>K (.exit i) fP
 | .ret=>K .ret fP
def Mi{R:Type}(id:Nat)(K:Ex->St->Option R)(ex:Ex)(fP:St):Option R:=match ex with
 | .normal=>K .normal fP
 | .exit i=>bif bVP i id then K .normal fP else K (.exit i) fP
 | .ret=>K .ret fP
def Ph{R:Type}(E:Env)(c:Code)(K:Ex->St->Option R)(ex:Ex)(fP:St):Option R:=match ex with
 | .normal=>fix (fun rec l=>evalCode E c (mk E.n0 (E.keep (keyOf c)) l) fun ex fP=>match ex with
  | .normal=>rec (canon E.n0 (E.keep (keyOf c)) fP)
  | .exit i=>K (.exit i) fP
  | .ret=>K .ret fP) (canon E.n0 (E.keep (keyOf c)) fP)
 | .exit i=>K (.exit i) fP
 | .ret=>K .ret fP
def findLoop{R:Type}(E:Env)(key:Nat):Code->(Ex->St->Option R)->Option (Code×(Ex->St->Option R))
 | .seq a b,K=>(findLoop E key a (Yo E b K)).or (findLoop E key b K)
 | .cond _ a b,K=>(findLoop E key a K).or (findLoop E key b K)
 | .block id c,K=>findLoop E key c (Mi id K)
 | .loop c,K=>bif bVP (keyOf c) key then some (c,K)else findLoop E key c (Ph E c K)
 | .scope c,K=>findLoop E key c K
 |_,_=>none
def eY{R:Type}(E:Env)(key:Nat):Code->(Ex->St->Option R)->Option (Code×(Ex->St->Option R))
 | .seq a b,K=>bif bVP (keyOf b) key then some (b,K)else(eY E key a (Yo E b K)).or (eY E key b K)
 | .cond _ a b,K=>(eY E key a K).or (eY E key b K)
 | .block id c,K=>eY E key c (Mi id K)
 | .loop c,K=>eY E key c (Ph E c K)
 | .scope c,K=>eY E key c K
 |_,_=>none
end AI
namespace AI
open Go Go.RowKit
def aGI(X:Nat->Prop)(w:World)(x v:Value):Prop:=x.oneCell'=true/\∃b off,v=.pointer (some ⟨b,off,none⟩)/\b<w.heap.size/\¬X b/\w.cell? ⟨b,off,none⟩=some x
def Qg(X:Nat->Prop)(w:World)(xs ps:List Value):Prop:=xs.length=ps.length/\∀(i:Nat) (x p:Value),xs[i]?=some x->ps[i]?=some p->aGI X w x p
def nO(X:Nat->Prop)(w:World):S->Value->Prop
 | .sc u,v=>v=u/\u.oneCell'=true
 | .ints k ns,v=>∃A c,v=.slice A ns.length c/\ns.length<=c/\∀(i:Nat) (n:Int),ns[i]?=some n->∃b off,A=some ⟨b,off,none⟩/\b<w.heap.size/\¬X b/\w.cell? ⟨b,off+i,none⟩=some (.int k n)
 | .bot,v=>v.oneCell'=true
 | .pt x,v=>aGI X w x v
 | .Sr f xs,v=>∃ps:List Value,v=.func (.func f) #[] ps.toArray/\Qg X w xs ps
def iK(X:Nat->Prop)(w:World)(cs:List S)(vs:List Value):Prop :=
 cs.length=vs.length/\∀(i:Nat) (s:S) (u:Value),cs[i]?=some s->vs[i]?=some u->nO X w s u
def uG(X:Nat->Prop)(w:World)(b off:Nat)(cs:List S):Prop :=
 ∀(i:Nat) (s:S),cs[i]?=some s->b<w.heap.size/\¬X b/\∃u,w.cell? ⟨b,off+i,none⟩=some u/\nO X w s u
def lA(w:World)(g:Nat):Nat:=match w.heap[g]? with
 |some (.cells arr _ _)=>arr.size
 |_=>0
def wJ(k:IntKind)(ns:List Int):List S:=ns.map fun n=>.sc (.int k n)
def aGH(ρ:Nat->Nat)(hp:Nat->Option jT)(X:Nat->Prop)(w:World):L->Value->Prop
 | .s x,v=>nO X w x v
 | .rows sz n f,v=>∃A c,v=.slice A n c/\n<=c/\∀i,i<n->(f i).length=sz/\∃b off,A=some ⟨b,off,none⟩/\uG X w b (off+i*sz) (f i)
 | .Oe cs,v=>∃b off,v=.pointer (some ⟨b,off,none⟩)/\uG X w b off cs
 | .Ta k ns,v=>∃b off,v=.pointer (some ⟨b,off,none⟩)/\uG X w b off (wJ k ns)
 | .ptr id off,v=>v=.pointer (some ⟨ρ id,off,none⟩)
 | .Rr id i,v=>v=.pointer (some ⟨ρ id,i,none⟩)/\∀blk k ns,hp id=some blk->blk.cont=.ints k ns->i<ns.length
 | .buf id n,v=>∃cap,v=.slice (some ⟨ρ id,0,none⟩) n cap/\n<=cap/\(∀blk k ns,hp id=some blk->blk.cont=.ints k ns->n=ns.length/\cap<=maxLen/\cap<=lA w (ρ id))/\∀blk cs,hp id=some blk->blk.cont=.cells cs->∃sz,cs.length=n*sz/\cap*sz<=lA w (ρ id)/\cap<=maxLen
 | .view id off n,v=>∃o' cap,v=.slice (some ⟨ρ id,o',none⟩) n cap/\n<=cap/\(0<n->o'=off)/\(off=0->o'=0)/\∀blk k ns,hp id=some blk->blk.cont=.ints k ns->off+n<=ns.length/\cap<=maxLen/\cap<=lA w (ρ id)
theorem wB{ρ:Nat->Nat}{hp:Nat->Option jT}{w:World}{id off n:Nat}{v:Value}(h:aGH ρ hp (fun _=>False) w (.view id off n) v) :
  ∃A cap,v=.slice A n cap/\n<=cap/\(0<n->A=some ⟨ρ id,off,none⟩)/\∀blk k ns,hp id=some blk->blk.cont=.ints k ns->off+n<=ns.length:=by
 obtain⟨o',cap,hv,hle,h1,_,h2⟩:=h;exact⟨_,cap,hv,hle,fun hn=>by rw[h1 hn],fun blk k ns h3 h4=>(h2 blk k ns h3 h4).1⟩
def Ew(ρ:Nat->Nat)(hp:Nat->Option jT)(X:Nat->Prop)(w:World):V->Value->Prop
 | .one l,v=>aGH ρ hp X w l v
 | .agg cs,v=>∃arr,v=.agg arr/\iK X w cs arr.toList
def wA(ρ:Nat->Nat)(hp:Nat->Option jT)(X:Nat->Prop)(w:World):A->Value->Prop
 | .v x,v=>Ew ρ hp X w x v
 | .Jp xs,v=>∃arr,v=.tuple arr/\xs.length=arr.size/\∀(i:Nat) (x:V) (u:Value),xs[i]?=some x->arr[i]?=some u->Ew ρ hp X w x u
 | .any,_=>True
def yD(X:Nat->Prop)(w:World):wX->Array Value->Prop
 | .ints k ns,arr=>ns.length<=arr.size/\∀(i:Nat) (n:Int),ns[i]?=some n->arr[i]?=some (Value.int k n)
 | .cells cs,arr=>cs.length<=arr.size/\∀(i:Nat) (s:S),cs[i]?=some s->∃u,arr[i]?=some u/\nO X w s u
def Ey(X:Nat->Prop)(w:World)(g:Nat)(b:jT):Prop:=∃arr,w.heap[g]?=some (.cells arr b.e (0,0))/\yD X w b.cont arr
def Own(ρ:Nat->Nat)(hp:Nat->Option jT)(b:Nat):Prop:=∃id blk,hp id=some blk/\ρ id=b
def XO(X:Nat->Prop)(ρ:Nat->Nat)(hp:Nat->Option jT)(b:Nat):Prop:=X b\/Own ρ hp b
def GlobOk(glob:Nat->Option (IntKind×List Int))(X:Nat->Prop)(w:World):Prop :=
 ∀g k ns,glob g=some (k,ns)->g<w.heap.size/\¬X g/\uG X w g 0 (wJ k ns)
structure Old where
 w:World
 M:Nat->Prop
 g:Nat->Nat
 bAI:∀b,M b->b<w.heap.size
def Old.Hw(o:Old)(b:Nat):Prop:=o.w.heap.size<=b\/o.M b
def Old.Cs(o:Old)(n0 id b:Nat):Prop:=o.w.heap.size<=b\/(id<n0/\o.M b)
theorem Old.Cs.Hw{o:Old}{n0 id b:Nat}(h:o.Cs n0 id b):o.Hw b:=h.imp (fun h=>h) And.right
theorem Old.Cs.new{o:Old}{n0 id b:Nat}(h:o.Cs n0 id b)(hn:n0<=id):o.w.heap.size<=b:=h.elim (fun h=>h) fun h=>absurd h.1 (by omega)
def Old.bare(w:World):Old:=⟨w,fun _=>False,id,fun _ h=>h.elim⟩
structure Kept(o:Old)(w w':World):Prop where
 os:w'.os=w.os
 tape:w'.tape=w.tape
 output:w'.output=w.output
 size:w.heap.size<=w'.heap.size
 block:∀b,¬o.Hw b->w'.heap[b]?=w.heap[b]?
 room:∀b,o.M b->lA w' b=lA w b
theorem wT{w w':World}{b:Nat}(h:w'.heap[b]?=w.heap[b]?):lA w' b=lA w b:=by unfold lA;rw[h]
theorem Kept.refl(o:Old)(w:World):Kept o w w:=⟨rfl,rfl,rfl,bVO _,fun _ _=>rfl,fun _ _=>rfl⟩
theorem Kept.trans{o:Old}{a b c:World}(h:Kept o a b)(k:Kept o b c):Kept o a c :=
 ⟨k.os.trans h.os,k.tape.trans h.tape,k.output.trans h.output,bWK h.size k.size,fun i hi=>(k.block i hi).trans (h.block i hi),fun i hi=>(k.room i hi).trans (h.room i hi)⟩
theorem Old.Va{o:Old}{b:Nat}(h:¬o.Hw b):b<o.w.heap.size:=by
 rcases bWE b o.w.heap.size with h1 |h1
 ·exact h1
 ·exact(h (.inl h1)).elim
theorem Kept.below{w w' aZW:World}(h:Kept (Old.bare w) w' aZW):Below w.heap.size w' aZW :=
 ⟨h.os,h.tape,h.output,h.size,fun k hk=>h.block k (fun hm=>by
  rcases hm with hm |hm
  ·exact absurd (show w.heap.size<=k from hm) (by omega)
  ·exact hm)⟩
structure iU(E:Env)(X:Nat->Prop)(w0:Old)(ρ:Nat->Nat)(al:Nat->Prop)(f:Nat->A)(hp:Nat->Option jT)(a:Act)(w:World):Prop where
 fr:∀t,wA ρ hp (XO X ρ hp) w (f t) (a.tmps.getD t undef)
 sz:a.tmps.size=E.nt
 nod:a.defers=[]
 blk:∀id b,hp id=some b->w0.Cs E.n0 id (ρ id)/\Ey (XO X ρ hp) w (ρ id) b
 inj:∀id Xr b b',hp id=some b->hp Xr=some b'->ρ id=ρ Xr->id=Xr
 alh:∀id b,hp id=some b->al id
 alr:∀t id,id∈refs (f t)->al id
 below:Kept w0 w0.w w
 x0:∀b,X b->¬w0.Hw b
 glob:GlobOk E.glob X w0.w
 mg:∀g p,E.glob g=some p->¬w0.M g
 al0:∀id,id<E.n0->al id
 vD:∀id,id<E.n0->ρ id=w0.g id
structure iA(X:Nat->Prop)(w:World)(X':Nat->Prop)(w':World):Prop where
 size:w.heap.size<=w'.heap.size
 keep:∀b,b<w.heap.size->¬X b->w'.heap[b]?=w.heap[b]?/\¬X' b
theorem iA.refl(X:Nat->Prop)(w:World):iA X w X w:=⟨bVO _,fun _ _ h=>⟨rfl,h⟩⟩
theorem iA.trans{X X' bOS:Nat->Prop}{w w' aZW:World}(h:iA X w X' w')(h':iA X' w' bOS aZW):iA X w bOS aZW :=
 ⟨bWK h.size h'.size,fun b hb hx=>by
  obtain⟨e,yU⟩:=h.keep b hb hx;obtain⟨e',bHQ⟩:=h'.keep b (bWL hb h.size) yU;exact⟨e'.trans e,bHQ⟩⟩
section
variable {X X':Nat->Prop} {w w':World}
theorem iA.cell(h:iA X w X' w'){b off:Nat}(hb:b<w.heap.size)(hx:¬X b):w'.cell? ⟨b,off,none⟩=w.cell? ⟨b,off,none⟩ :=
 World.cell?_of_block (a:=⟨b,off,none⟩) (h.keep b hb hx).1
theorem aGI.later(h:iA X w X' w'){x v:Value}(r:aGI X w x v):aGI X' w' x v:=by
 obtain⟨h1,b,off,hv,hb,hx,hc⟩:=r;exact⟨h1,b,off,hv,bWL hb h.size,(h.keep b hb hx).2,(h.cell hb hx).trans hc⟩
theorem Qg.later(h:iA X w X' w'){xs ps:List Value}(r:Qg X w xs ps):Qg X' w' xs ps:=⟨r.1,fun i x p hx hp=>(r.2 i x p hx hp).later h⟩
theorem nO.later(h:iA X w X' w'){s:S}{v:Value}(r:nO X w s v):nO X' w' s v:=by
 cases s with
 |sc u=>exact r
 |bot=>exact r
 |pt x=>exact aGI.later h r
 |Sr f xs=>obtain⟨ps,hv,hp⟩:=r;exact⟨ps,hv,hp.later h⟩
 |ints k ns =>
  obtain⟨A,c,hv,hle,hc⟩:=r;refine⟨A,c,hv,hle,fun i n hn=>?_⟩;obtain⟨b,off,hA,hb,hx,Pn⟩:=hc i n hn;exact⟨b,off,hA,bWL hb h.size,(h.keep b hb hx).2,(h.cell hb hx).trans Pn⟩
theorem nO.one{s:S}{v:Value}(r:nO X w s v):v.oneCell'=true:=by
 cases s with
 |sc u=>obtain⟨rfl,h⟩:=r;exact h
 |bot=>exact r
 |pt x=>obtain⟨_,b,off,rfl,_⟩:=r;rfl
 |Sr f xs=>obtain⟨ps,rfl,_⟩:=r;rfl
 |ints k ns=>obtain⟨A,c,rfl,_⟩:=r;rfl
theorem iK.later(h:iA X w X' w'){cs:List S}{vs:List Value}(r:iK X w cs vs):iK X' w' cs vs :=
 ⟨r.1,fun i s u hs hu=>(r.2 i s u hs hu).later h⟩
theorem uG.later(h:iA X w X' w'){b off:Nat}{cs:List S}(r:uG X w b off cs):uG X' w' b off cs:=by
 intro i s hs;obtain⟨hb,hx,u,hu,hr⟩:=r i s hs;exact⟨bWL hb h.size,(h.keep b hb hx).2,u,(h.cell hb hx).trans hu,hr.later h⟩
theorem yD.later(h:iA X w X' w'){c:wX}{arr:Array Value}(r:yD X w c arr):yD X' w' c arr:=by
 cases c with
 |ints k ns=>exact r
 |cells cs=>exact⟨r.1,fun i s hs=>let ⟨u,hu,hr⟩:=r.2 i s hs;⟨u,hu,hr.later h⟩⟩
end
def sameShape(b b':jT):Prop:=(∀k ns,b'.cont=.ints k ns->∃k' mZ,b.cont=.ints k' mZ/\mZ.length=ns.length)/\∀cs,b'.cont=.cells cs->∃Ma,b.cont=.cells Ma/\Ma.length=cs.length
theorem sameShape.refl(b:jT):sameShape b b:=⟨fun k ns e=>⟨k,ns,e,rfl⟩,fun cs e=>⟨cs,e,rfl⟩⟩
section
variable {ρ ρ':Nat->Nat} {hp hp':Nat->Option jT} {X X':Nat->Prop} {w w':World} {al:Nat->Prop}
def vK(ρ ρ':Nat->Nat)(hp hp':Nat->Option jT)(w w':World)(al:Nat->Prop):Prop :=
 ∀id,al id->ρ' id=ρ id/\∀b',hp' id=some b'->∃b,hp id=some b/\sameShape b b'/\lA w' (ρ id)=lA w (ρ id)
theorem vK.refl(ρ:Nat->Nat)(hp:Nat->Option jT)(w:World)(al:Nat->Prop):vK ρ ρ hp hp w w al :=
 fun _ _=>⟨rfl,fun b h=>⟨b,h,sameShape.refl _,rfl⟩⟩
theorem aGH.later(h:iA X w X' w')(hh:vK ρ ρ' hp hp' w w' al){l:L}{v:Value}(qW:∀id∈refsL l,al id)(r:aGH ρ hp X w l v):aGH ρ' hp' X' w' l v:=by
 cases l with
 |s x=>exact nO.later h r
 |rows sz n f =>
  obtain⟨A,c,hv,hle,hc⟩:=r;refine⟨A,c,hv,hle,fun i hi=>?_⟩;obtain⟨hl,b,off,hA,Ry⟩:=hc i hi;exact⟨hl,b,off,hA,Ry.later h⟩
 |Oe cs=>obtain⟨b,off,hv,hc⟩:=r;exact⟨b,off,hv,hc.later h⟩
 |Ta k ns=>obtain⟨b,off,hv,hc⟩:=r;exact⟨b,off,hv,hc.later h⟩
 |ptr id off =>
  have hr:v=.pointer (some ⟨ρ id,off,none⟩):=r;show v=.pointer (some ⟨ρ' id,off,none⟩);rw[(hh id (qW id (by simp[refsL]))).1];exact hr
 |Rr id i =>
  obtain⟨hv,hc⟩:=r;obtain⟨e,hb⟩:=hh id (qW id (by simp[refsL]));refine⟨by rw[e];exact hv,fun b' k ns h1 h2=>?_⟩;obtain⟨b,h3,h4,_⟩:=hb b' h1;obtain⟨k',mZ,h5,h6⟩:=h4.1 k ns h2;have:=hc b k' mZ h3 h5;omega
 |buf id n =>
  obtain⟨cap,hv,hle,hc,aQR⟩:=r;obtain⟨e,hb⟩:=hh id (qW id (by simp[refsL]));refine⟨cap,by rw[e];exact hv,hle,fun b' k ns h1 h2=>?_,fun b' cs h1 h2=>?_⟩
  ·obtain⟨b,h3,h4,h7⟩:=hb b' h1;obtain⟨k',mZ,h5,h6⟩:=h4.1 k ns h2;have:=hc b k' mZ h3 h5;rw[e,h7];exact⟨by omega,this.2⟩
  ·obtain⟨b,h3,h4,h7⟩:=hb b' h1;obtain⟨Ma,h5,h6⟩:=h4.2 cs h2;obtain⟨sz,h8,h9⟩:=aQR b Ma h3 h5;rw[e,h7];exact⟨sz,by omega,h9⟩
 |view id off n =>
  obtain⟨o',cap,hv,hle,aKT,zS,hc⟩:=r;obtain⟨e,hb⟩:=hh id (qW id (by simp[refsL]));refine⟨o',cap,by rw[e];exact hv,hle,aKT,zS,fun b' k ns h1 h2=>?_⟩;obtain⟨b,h3,h4,h7⟩:=hb b' h1;obtain⟨k',mZ,h5,h6⟩:=h4.1 k ns h2;have:=hc b k' mZ h3 h5;rw[e,h7];exact⟨by omega,this.2⟩
theorem Ew.later(h:iA X w X' w')(hh:vK ρ ρ' hp hp' w w' al){x:V}{v:Value}(qW:∀id∈refsV x,al id)(r:Ew ρ hp X w x v):Ew ρ' hp' X' w' x v:=by
 cases x with
 |one l=>exact aGH.later h hh qW r
 |agg cs=>obtain⟨arr,hv,hr⟩:=r;exact⟨arr,hv,hr.later h⟩
theorem wA.later(h:iA X w X' w')(hh:vK ρ ρ' hp hp' w w' al){x:A}{v:Value}(qW:∀id∈refs x,al id)(r:wA ρ hp X w x v):wA ρ' hp' X' w' x v:=by
 cases x with
 |v x=>exact Ew.later h hh qW r
 |any=>trivial
 |Jp xs =>
  obtain⟨arr,hv,hl,hr⟩:=r;refine⟨arr,hv,hl,fun i x u hx hu=>Ew.later h hh (fun id vI=>qW id ?_) (hr i x u hx hu)⟩;exact List.mem_flatMap.2 ⟨x,bVX hx,vI⟩
end
theorem iU.next{E:Env}{X:Nat->Prop}{w0:Old}{ρ ρ':Nat->Nat}{al al':Nat->Prop}{fr:Nat->A}{hp hp':Nat->Option jT}{a:Act}{w w':World}{o:Oper}{x:A}{v:Value}
  (h:iU E X w0 ρ al fr hp a w) (hd:iT E.nt o=true)
  (hl:iA (XO X ρ hp) w (XO X ρ' hp') w') (hb:Kept w0 w w')
  (hh:vK ρ ρ' hp hp' w w' al)
  (Ia:∀id b,hp' id=some b->w0.Cs E.n0 id (ρ' id)/\Ey (XO X ρ' hp') w' (ρ' id) b)
  (zU:∀id Xr b b',hp' id=some b->hp' Xr=some b'->ρ' id=ρ' Xr->id=Xr)
  (qW:∀id,al id->al' id) (aWO:∀id b,hp' id=some b->al' id)
  (hx:wA ρ' hp' (XO X ρ' hp') w' x v) (bAW:∀id∈refs x,al' id) :
  iU E X w0 ρ' al' (Cp o x fr) hp' (a.put o.dst v) w':=by
 have key:∀t,wA ρ' hp' (XO X ρ' hp') w' (Cp o x fr t) ((a.put o.dst v).tmps.getD t undef)/\∀id∈refs (Cp o x fr t),al' id:=by
  intro t;unfold Cp Act.put;cases aFJ:o.dst with
  |none=>exact⟨wA.later hl hh (h.alr t) (h.fr t),fun id vI=>qW id (h.alr t id vI)⟩
  |some d =>
   have jB:d<a.tmps.size:=by rw[h.sz];unfold iT at hd;rw[aFJ]at hd;simpa using hd
   simp only[Ay];cases bNU:bVP t d with
   |true =>
    obtain rfl:t=d:=bWD bNU;simp only[cond_true];refine⟨?_,bAW⟩;have e:(a.tmps.setIfInBounds t v).getD t undef=v:=by simp[Array.getD,jB]
    rw[e];exact hx
   |false =>
    have yT:t≠d:=bXS bNU;simp only[cond_false];have e:(a.tmps.setIfInBounds d v).getD t undef=a.tmps.getD t undef:=by
     simp only[Array.getD_eq_getD_getElem?,Array.getElem?_setIfInBounds];rw[if_neg (fun h=>yT h.symm)]
    rw[e];exact⟨wA.later hl hh (h.alr t) (h.fr t),fun id vI=>qW id (h.alr t id vI)⟩
 exact { fr:=fun t=>(key t).1,sz:=by unfold Act.put;cases o.dst <;> simp[h.sz],nod:=by unfold Act.put;cases o.dst <;> exact h.nod,blk:=Ia,inj:=zU,alh:=aWO,alr:=fun t=>(key t).2,below:=h.below.trans hb,x0:=h.x0,glob:=h.glob,mg:=h.mg,al0:=fun id hi=>qW id (h.al0 id hi),vD:=fun id hi=>(hh id (h.al0 id hi)).1.trans (h.vD id hi) }
theorem iU.pure{E:Env}{X:Nat->Prop}{w0:Old}{ρ:Nat->Nat}{al:Nat->Prop}{fr:Nat->A}{hp:Nat->Option jT}{a:Act}{w:World}{o:Oper}{x:A}{v:Value}
  (h:iU E X w0 ρ al fr hp a w) (hd:iT E.nt o=true) (hx:wA ρ hp (XO X ρ hp) w x v) (bAW:∀id∈refs x,al id) :
  iU E X w0 ρ al (Cp o x fr) hp (a.put o.dst v) w :=
 h.next hd (iA.refl _ _) (Kept.refl _ _) (vK.refl _ _ _ _) h.blk h.inj (fun _ h=>h) h.alh hx bAW
theorem iU.Sc{E:Env}{X:Nat->Prop}{w0:Old}{ρ:Nat->Nat}{al:Nat->Prop}{fr:Nat->A}{hp:Nat->Option jT}{a:Act}{w:World}
  (h:iU E X w0 ρ al fr hp a w):GlobOk E.glob (XO X ρ hp) w:=by
 intro g k ns hg;obtain⟨h1,h2,h3⟩:=h.glob g k ns hg;have hm:¬w0.Hw g:=by
  rintro (hm |hm)
  ·omega
  ·exact h.mg g _ hg hm
 have hx:¬XO X ρ hp g:=by
  rintro (ho |⟨id,b',e1,e2⟩)
  ·exact h2 ho
  ·exact hm (e2▸(h.blk id b' e1).1.Hw)
 refine⟨bWL h1 h.below.size,hx,fun i s hs=>?_⟩;obtain⟨_,_,u,hu,hr⟩:=h3 i s hs;refine⟨bWL h1 h.below.size,hx,u,(World.cell?_of_block (a:=⟨g,0+i,none⟩) (h.below.block g hm)).trans hu,?_⟩;unfold wJ at hs;rw[bVS]at hs;obtain⟨m,_,rfl⟩:=Option.map_eq_some_iff.1 hs;exact hr
theorem iU.ev{E:Env}{X:Nat->Prop}{w0:Old}{ρ:Nat->Nat}{al:Nat->Prop}{fr:Nat->A}{hp:Nat->Option jT}{a:Act}{w:World}
  (h:iU E X w0 ρ al fr hp a w) (x:Operand):wA ρ hp (XO X ρ hp) w (evA E fr x) (a.eval x)/\∀id∈refs (evA E fr x),al id:=by
 cases x with
 |tmp t=>exact⟨h.fr t,h.alr t⟩
 |const v =>
  simp only[evA];split
  ·rename_i hv;exact⟨⟨rfl,hv⟩,by simp[refs,refsV,refsL]⟩
  ·exact⟨trivial,by simp[refs]⟩
 |func f=>exact⟨⟨rfl,rfl⟩,by simp[evA,refs,refsV,refsL]⟩
 |global g =>
  simp only[evA];cases hg:E.glob g with
  |none=>exact⟨trivial,by simp[refs]⟩
  |some p =>
   obtain⟨k,ns⟩:=p;refine⟨⟨g,0,rfl,?_⟩,by simp[refs,refsV,refsL]⟩;exact(h.Sc g k ns hg).2.2
end AI
namespace AI
open Go Go.RowKit
theorem Gu{R:Type}(op:BinOp)(x y:Value)(K:Value->Option R):binK op x y K=(binK op x y some).bind K:=by
 unfold binK;split
 ·split <;> (repeat' split) <;> first |rfl | (simp;done)
 ·split <;> (repeat' split) <;> first |rfl | (generalize Ieee.Format.add _ _ _=m;cases m <;> rfl) | (generalize Ieee.Format.sub _ _ _=m;cases m <;> rfl) | (generalize Ieee.Format.mul _ _ _=m;cases m <;> rfl) | (generalize Ieee.Format.div _ _ _=m;cases m <;> rfl)
 ·split <;> rfl
 ·rfl
theorem Jn{R:Type}(op:UnOp)(x:Value)(K:Value->Option R):unK op x K=(unK op x some).bind K:=by
 unfold unK;split <;> simp
theorem Cw{R:Type}(k:TK)(x:Value)(K:Value->Option R):convK k x K=(convK k x some).bind K:=by
 unfold convK;split
 ·simp
 ·simp
 ·rename_i s b;cases ((FloatKind.decode s b).toInt .zero)with
  |none=>rfl
  |some n=>simp only[bXG];split <;> simp
 ·split <;> simp
 ·rfl
theorem fdiv_pow(a:Int)(n:Nat):a.fdiv (2^n)=a/((2^n:Nat):Int):=by
 rw[Int.fdiv_eq_ediv_of_nonneg _ (by exact Int.le_of_lt (Int.pow_pos (by omega)))];simp
theorem Wh{P:Program}(op:BinOp)(t:TypeId)(x y:Operand)(k k':IntKind)(a b:Int)(w:World):(eqGuard op t x y (.int k a) (.int k' b)).run P w=.ok () w:=by
 unfold eqGuard;split <;> rfl
theorem Oa{P:Program}(op:BinOp)(t:TypeId)(x y:Operand)(k k':FloatKind)(a b:Nat)(w:World):(eqGuard op t x y (.float k a) (.float k' b)).run P w=.ok () w:=by
 unfold eqGuard;split <;> rfl
theorem Sj{P:Program}(op:BinOp)(t:TypeId)(x y:Operand)(a b:Bool)(w:World):(eqGuard op t x y (.bool a) (.bool b)).run P w=.ok () w:=by
 unfold eqGuard;split <;> rfl
theorem aRX{P:Program}(op:BinOp)(t:TypeId)(k k':IntKind)(a b:Int)(r:Value)(w:World)(h:binK op (.int k a) (.int k' b) some=some r) :
  (binOp op t (.int k a) (.int k' b)).run P w=.ok r w/\r.oneCell'=true:=by
 cases op <;> simp only[binK]at h
 case shl =>
  split at h <;> cases h;rename_i hb;simp[binOp,Op.shift,hb,Value.oneCell']
 case shr =>
  split at h <;> cases h;rename_i hb;simp[binOp,Op.shift,fdiv_pow,hb,Value.oneCell']
 case quo =>
  split at h <;> try (cases h;done)
  split at h <;> cases h;rename_i hk hb;simp[binOp,Op.intDiv,hk,hb,Value.oneCell']
 case rem =>
  split at h <;> try (cases h;done)
  split at h <;> cases h;rename_i hk hb;simp[binOp,Op.intDiv,hk,hb,Value.oneCell']
 all_goals
  split at h <;> cases h;rename_i hk;subst hk;simp[binOp,Op.intArith,Op.intCmp,Op.intBits,wS,bitsI0,Value.oneCell']
theorem aGD{P:Program}(op:BinOp)(t:TypeId)(k k':FloatKind)(a b:Nat)(r:Value)(w:World)(h:binK op (.float k a) (.float k' b) some=some r) :
  (binOp op t (.float k a) (.float k' b)).run P w=.ok r w/\r.oneCell'=true:=by
 cases op <;> simp only[binK]at h
 case add =>
  split at h <;> try (cases h;done)
  rename_i hk;subst hk;obtain⟨m,hm,hr⟩:=Option.bind_eq_some_iff.1 h;cases hr;simp[binOp,Op.floatArith,hm,Value.oneCell']
 case sub =>
  split at h <;> try (cases h;done)
  rename_i hk;subst hk;obtain⟨m,hm,hr⟩:=Option.bind_eq_some_iff.1 h;cases hr;simp[binOp,Op.floatArith,hm,Value.oneCell']
 case mul =>
  split at h <;> try (cases h;done)
  rename_i hk;subst hk;obtain⟨m,hm,hr⟩:=Option.bind_eq_some_iff.1 h;cases hr;simp[binOp,Op.floatArith,hm,Value.oneCell']
 case quo =>
  split at h <;> try (cases h;done)
  rename_i hk;subst hk;obtain⟨m,hm,hr⟩:=Option.bind_eq_some_iff.1 h;cases hr;simp[binOp,Op.floatArith,hm,Value.oneCell']
 all_goals (try (cases h;done))
 all_goals
  split at h <;> cases h;rename_i hk;subst hk;simp[binOp,Op.floatCmp,Value.oneCell']
theorem aGC{P:Program}(op:BinOp)(t:TypeId)(x y:Operand)(a b r:Value)(w:World)(hb:∀q,a=.bool q->P.underlying t=some .bool)(h:binK op a b some=some r) :
  (do eqGuard op t x y a b;binOp op t a b:Sem Value).run P w=.ok r w/\r.oneCell'=true:=by
 cases a with
 |int k a =>
  cases b with
  |int k' b=>rw[Sem.run_bind,Wh];exact aRX op t k k' a b r w h
  |_=>simp[binK]at h
 |float k a =>
  cases b with
  |float k' b=>rw[Sem.run_bind,Oa];exact aGD op t k k' a b r w h
  |_=>simp[binK]at h
 |bool a =>
  cases b with
  |bool b =>
   rw[Sem.run_bind,Sj];have ht:=hb a rfl;cases op <;> simp only[binK]at h <;> cases h
   ·exact⟨run_eql_bool w t a b ht,rfl⟩
   ·refine⟨?_,rfl⟩;rw[Result.andThen_ok];simp only[binOp];rw[Sem.run_bind,run_equal_bool w t a b ht];rfl
  |_=>simp[binK]at h
 |_=>simp[binK]at h
theorem aHX{P:Program}(op:UnOp)(a r:Value)(w:World)(h:unK op a some=some r) :
  (Op.unary op a).run P w=.ok r w/\r.oneCell'=true:=by
 unfold unK at h;split at h <;> cases h <;> simp[Op.unary,Op.intArith,Op.intBits,wS,bitsI0,Value.oneCell']
end AI
namespace AI
open Go Go.RowKit
section
variable {E:Env} {X:Nat->Prop} {w0:Old} {ρ ρ':Nat->Nat} {al al':Nat->Prop} {fr:Nat->A} {hp hp':Nat->Option jT} {a:Act} {w w':World}
theorem iU.change(h:iU E X w0 ρ al fr hp a w)
  (hl:iA (XO X ρ hp) w (XO X ρ' hp') w') (hb:Kept w0 w w')
  (hh:vK ρ ρ' hp hp' w w' al)
  (Ia:∀id b,hp' id=some b->w0.Cs E.n0 id (ρ' id)/\Ey (XO X ρ' hp') w' (ρ' id) b)
  (zU:∀id Xr b b',hp' id=some b->hp' Xr=some b'->ρ' id=ρ' Xr->id=Xr)
  (qW:∀id,al id->al' id) (aWO:∀id b,hp' id=some b->al' id):iU E X w0 ρ' al' fr hp' a w' :=
 { fr:=fun t=>wA.later hl hh (h.alr t) (h.fr t),sz:=h.sz,nod:=h.nod,blk:=Ia,inj:=zU,alh:=aWO,alr:=fun t id vI=>qW id (h.alr t id vI),below:=h.below.trans hb,x0:=h.x0,glob:=h.glob,mg:=h.mg,al0:=fun id hi=>qW id (h.al0 id hi),vD:=fun id hi=>(hh id (h.al0 id hi)).1.trans (h.vD id hi) }
def Cons(u:pS):Prop:=∀p∈u,p.2=none
theorem kR(u v:pS)(hp:Nat->Option jT):applyUps (u ++ v) hp=applyUps v (applyUps u hp):=by
 induction u generalizing hp with
 |nil=>rfl
 |cons p u ih=>obtain⟨i,b⟩:=p;simp only[bXH,applyUps];exact ih _
theorem bJ{α:Type}(f:Nat->α)(d:Nat)(x:α):Ay f d x d=x:=by simp[Ay]
theorem fM{α:Type}(f:Nat->α){d i:Nat}(x:α)(h:i≠d):Ay f d x i=f i:=by
 have:bVP i d=false:=by cases hb:bVP i d with
  |false=>rfl
  |true=>exact absurd (bWD hb) h
 simp[Ay,this]
theorem iB{u:pS}(hu:Cons u){hp:Nat->Option jT}{i:Nat}{b:jT}(h:applyUps u hp i=some b):hp i=some b:=by
 induction u generalizing hp with
 |nil=>exact h
 |cons p u ih =>
  obtain⟨j,c⟩:=p;have hc:c=none:=hu (j,c) (by simp);subst hc;have:=ih (fun p hp=>hu p (by simp[hp])) h
  by_cases aZA:i=j
  ·subst aZA;rw[bJ]at this;cases this
  ·rwa [fM _ _ aZA]at this
theorem Oj{u:pS}(hu:Cons u){hp:Nat->Option jT}{i:Nat}(h:(i,none)∈u):applyUps u hp i=none:=by
 induction u generalizing hp with
 |nil=>cases h
 |cons p u ih =>
  obtain⟨j,c⟩:=p;have hc:c=none:=hu (j,c) (by simp);subst hc;have Vm:Cons u:=fun p hp=>hu p (by simp[hp])
  rcases List.mem_cons.1 h with h |h
  ·cases h;cases hq:applyUps ((i,none) :: u) hp i with
   |none=>rfl
   |some b=>have:=iB Vm (hp:=Ay hp i none) hq;rw[bJ]at this;cases this
  ·exact ih Vm h
theorem Own.of_cons{u:pS}(hu:Cons u){b:Nat}(h:Own ρ (applyUps u hp) b):Own ρ hp b:=by
 obtain⟨id,bl,h1,h2⟩:=h;exact⟨id,bl,iB hu h1,h2⟩
theorem iA.cons{u:pS}(hu:Cons u):iA (XO X ρ hp) w (XO X ρ (applyUps u hp)) w :=
 ⟨bVO _,fun _ _ hx=>⟨rfl,fun h=>hx (h.imp id (Own.of_cons hu))⟩⟩
theorem Ey.later{X X':Nat->Prop}{g:Nat}{b:jT}(h:iA X w X' w')(hg:w'.heap[g]?=w.heap[g]?)(r:Ey X w g b):Ey X' w' g b:=by
 obtain⟨arr,h1,h2⟩:=r;exact⟨arr,hg.trans h1,h2.later h⟩
theorem iU.cons(h:iU E X w0 ρ al fr hp a w){u:pS}(hu:Cons u):iU E X w0 ρ al fr (applyUps u hp) a w :=
 h.change (iA.cons hu) (Kept.refl _ _)
  (fun _ _=>⟨rfl,fun b' uZ=>⟨b',iB hu uZ,sameShape.refl _,rfl⟩⟩)
  (fun id b hb=>⟨(h.blk id b (iB hu hb)).1,(h.blk id b (iB hu hb)).2.later (iA.cons hu) rfl⟩)
  (fun id Xr b b' h1 h2 e=>h.inj id Xr b b' (iB hu h1) (iB hu h2) e)
  (fun _ h=>h) (fun id b hb=>h.alh id b (iB hu hb))
theorem Ey.lt{X:Nat->Prop}{g:Nat}{b:jT}(r:Ey X w g b):g<w.heap.size:=by
 obtain⟨arr,h1,_⟩:=r;exact(Array.getElem?_eq_some_iff.1 h1).1
theorem wO(w:World)(o:Obj):(w.alloc o).heap[w.heap.size]?=some o:=heap_alloc_new w o
theorem wM(w:World)(o:Obj){k:Nat}(h:k<w.heap.size):(w.alloc o).heap[k]?=w.heap[k]?:=Below.heap_alloc w o k h
theorem iU.iV(h:iU E X w0 ρ al fr hp a w){id:Nat}{b:jT}(hb:hp id=some b):ρ id<w.heap.size:=(h.blk id b hb).2.lt
theorem Kept.alloc{o:Old}{w:World}(h:o.w.heap.size<=w.heap.size)(x:Obj):Kept o w (w.alloc x) :=
 ⟨rfl,rfl,rfl,by simp,fun _ hb=>wM w x (by have:=Old.Va hb;omega),fun b hb=>wT (wM w x (by have:=o.bAI b hb;omega))⟩
theorem iU.alloc(h:iU E X w0 ρ al fr hp a w){id:Nat}(vI:¬al id)(qW:∀i,al i->al' i)(sT:al' id)(e:TypeId)(c:wX)(arr:Array Value)(hc:yD (XO X ρ hp) w c arr) :
  iU E X w0 (Ay ρ id w.heap.size) al' fr (Ay hp id (some ⟨e,c⟩)) a (w.alloc (.cells arr e)):=by
 have yT:∀i,al i->i≠id:=fun i hi e=>vI (e▸hi)
 have hl:iA (XO X ρ hp) w (XO X (Ay ρ id w.heap.size) (Ay hp id (some ⟨e,c⟩))) (w.alloc (.cells arr e)):=by
  refine⟨by simp,fun b hb hx=>⟨wM w _ hb,fun ho=>?_⟩⟩;rcases ho with ho |⟨i,bl,h1,h2⟩
  ·exact hx (.inl ho)
  ·by_cases hi:i=id
   ·subst hi;rw[bJ]at h2;omega
   ·rw[fM _ _ hi]at h1 h2;exact hx (.inr ⟨i,bl,h1,h2⟩)
 refine h.change hl (Kept.alloc h.below.size _) ?_ ?_ ?_ qW ?_
 ·intro i hi;refine⟨fM _ _ (yT i hi),fun b' uZ=>?_⟩;rw[fM _ _ (yT i hi)]at uZ;refine⟨b',uZ,sameShape.refl _,?_⟩;unfold lA;rw[wM w _ (h.iV uZ)]
 ·intro i b hb
  by_cases hi:i=id
  ·subst hi;rw[bJ]at hb;cases hb;refine⟨by rw[bJ];exact .inl h.below.size,arr,by rw[bJ];exact wO w _,hc.later hl⟩
  ·rw[fM _ _ hi]at hb;rw[fM _ _ hi];exact⟨(h.blk i b hb).1,(h.blk i b hb).2.later hl (wM w _ (h.iV hb))⟩
 ·intro i i' b b' h1 h2 e
  by_cases hi:i=id
  ·by_cases aCZ:i'=id
   ·rw[hi,aCZ]
   ·subst hi;rw[fM _ _ aCZ]at h2;rw[bJ,fM _ _ aCZ]at e;have:=h.iV h2;omega
  ·by_cases aCZ:i'=id
   ·subst aCZ;rw[fM _ _ hi]at h1;rw[bJ,fM _ _ hi]at e;have:=h.iV h1;omega
   ·rw[fM _ _ hi]at h1 e;rw[fM _ _ aCZ]at h2 e;exact h.inj i i' b b' h1 h2 e
 ·intro i b hb
  by_cases hi:i=id
  ·subst hi;exact sT
  ·rw[fM _ _ hi]at hb;exact qW i (h.alh i b hb)
theorem iU.setRow(h:iU E X w0 ρ al fr hp a w){id:Nat}{b:jT}(hb:hp id=some b)(c:wX)(arr:Array Value)(hs:sameShape b ⟨b.e,c⟩)(sF:lA w (ρ id)=arr.size)(hc:yD (XO X ρ hp) w c arr) :
  iU E X w0 ρ al fr (Ay hp id (some ⟨b.e,c⟩)) a (w.setRow (ρ id) arr):=by
 obtain⟨Lo,bLD,hg,_⟩:=h.blk id b hb;have sT:(w.setRow (ρ id) arr).heap[ρ id]?=some (.cells arr b.e (0,0)):=setRow_heap w (ρ id) bLD arr b.e _ hg;have hold:∀k,k≠ρ id->(w.setRow (ρ id) arr).heap[k]?=w.heap[k]?:=fun k hk=>setRow_other w (ρ id) k arr (fun e=>hk e)
 have sR:∀b',Own ρ (Ay hp id (some ⟨b.e,c⟩)) b'->Own ρ hp b':=by
  rintro b' ⟨i,bl,h1,h2⟩
  by_cases hi:i=id
  ·subst hi;exact⟨i,b,hb,h2⟩
  ·rw[fM _ _ hi]at h1;exact⟨i,bl,h1,h2⟩
 have hl:iA (XO X ρ hp) w (XO X ρ (Ay hp id (some ⟨b.e,c⟩))) (w.setRow (ρ id) arr):=by
  refine⟨by simp[World.setRow],fun b' uZ hx=>⟨hold b' (fun e=>hx (.inr ⟨id,b,hb,e.symm⟩)),fun ho=>hx (ho.imp (fun h=>h) (sR b'))⟩⟩
 have zU:∀i b',hp i=some b'->i≠id->ρ i≠ρ id:=fun i b' hi yT e=>yT (h.inj i id b' b hi hb e)
 refine h.change hl ⟨rfl,rfl,rfl,by simp[World.setRow],fun k hk=>hold k (fun e=>hk (e▸Lo.Hw)),fun k _=>by
  by_cases hk:k=ρ id
  ·rw[hk,sF];unfold lA;rw[sT]
  ·exact wT (hold k hk)⟩ ?_ ?_ ?_ (fun _ h=>h) ?_
 ·intro i _;refine⟨rfl,fun b' uZ=>?_⟩
  by_cases hi:i=id
  ·subst hi;rw[bJ]at uZ;cases uZ;refine⟨b,hb,hs,?_⟩;rw[sF];unfold lA;rw[sT]
  ·rw[fM _ _ hi]at uZ;refine⟨b',uZ,sameShape.refl _,?_⟩;unfold lA;rw[hold _ (zU i b' uZ hi)]
 ·intro i b' uZ
  by_cases hi:i=id
  ·subst hi;rw[bJ]at uZ;cases uZ;exact⟨Lo,arr,sT,hc.later hl⟩
  ·rw[fM _ _ hi]at uZ;exact⟨(h.blk i b' uZ).1,(h.blk i b' uZ).2.later hl (hold _ (zU i b' uZ hi))⟩
 ·intro i i' b1 b2 h1 h2 e;have f:∀i b1,Ay hp id (some ⟨b.e,c⟩) i=some b1->∃b2,hp i=some b2:=by
   intro i b1 h1
   by_cases hi:i=id
   ·subst hi;exact⟨b,hb⟩
   ·rw[fM _ _ hi]at h1;exact⟨b1,h1⟩
  obtain⟨c1,Xy⟩:=f i b1 h1;obtain⟨c2,aQW⟩:=f i' b2 h2;exact h.inj i i' c1 c2 Xy aQW e
 ·intro i b1 h1
  by_cases hi:i=id
  ·subst hi;exact h.alh i b hb
  ·rw[fM _ _ hi]at h1;exact h.alh i b1 h1
theorem iU.Pr(h:iU E X w0 ρ al fr hp a w){id:Nat}{b:jT}(hb:hp id=some b){u:pS}(hu:Cons u)(vI:(id,none)∈u):¬XO X ρ (applyUps u hp) (ρ id):=by
 rintro (hx |⟨i,bl,h1,h2⟩)
 ·exact h.x0 _ hx (h.blk id b hb).1.Hw
 ·have:=h.inj i id bl b (iB hu h1) hb h2;subst this;rw[Oj hu vI]at h1;cases h1
theorem iU.xT(h:iU E X w0 ρ al fr hp a w){id:Nat}{e:TypeId}{k:IntKind}{ns:List Int}(hb:hp id=some ⟨e,.ints k ns⟩){i:Nat}{n:Int}(hi:ns[i]?=some n):w.cell? ⟨ρ id,i,none⟩=some (.int k n):=by
 obtain⟨_,arr,hg,hc⟩:=h.blk id _ hb;rw[cell_of_row w (ρ id) i arr e (0,0) hg];exact hc.2 i n hi
theorem vY(h:iU E X w0 ρ al fr hp a w){x:A}{v:Value}(hr:wA ρ hp (XO X ρ hp) w x v){cs:List S}{u:pS}(hc:cellsOf hp x=some (cs,u)) :
  Cons u/\iK (XO X ρ (applyUps u hp)) w cs v.cells.toList:=by
 unfold cellsOf at hc;split at hc
 ·cases hc;obtain⟨arr,rfl,hs⟩:=hr;exact⟨(fun p hp=>by cases hp),hs⟩
 ·cases hc;rename_i x;have hr:nO _ w x v:=hr;refine⟨(fun p hp=>by cases hp),?_⟩;have e:v.cells.toList=[v]:=by
   have:=hr.one;cases v <;> first |rfl | (simp[Value.oneCell']at this)
  rw[e];refine⟨rfl,fun i s u hs hu=>?_⟩
  match i with
  |0=>simp at hs hu;subst hs;subst hu;exact hr
  |i+1=>simp at hs
 ·split at hc <;> cases hc;rename_i id n o e k ns hb;obtain⟨cap,rfl,Bq,aWL,_⟩:=hr;have hu:Cons [(id,none)]:=fun p hp=>by simp at hp;subst hp;rfl
  refine⟨hu,rfl,fun i s u hs Vm=>?_⟩
  match i with
  |0 =>
   simp[Value.cells]at hs Vm;subst hs;subst Vm;obtain⟨hn,_⟩:=aWL _ k ns hb rfl;subst hn;refine⟨_,cap,rfl,Bq,fun i n hi=>⟨ρ id,0,rfl,h.iV hb,h.Pr hb hu (by simp),?_⟩⟩;rw[bVQ];exact h.xT hb hi
  |i+1=>simp at hs
 ·split at hc <;> cases hc;rename_i id off n o e k ns hb;obtain⟨A0,cap,rfl,Bq,hA,hlen⟩:=wB hr;have hu:Cons [(id,none)]:=fun p hp=>by simp at hp;subst hp;rfl
  have hl:=hlen _ k ns hb rfl;refine⟨hu,rfl,fun i s u hs Vm=>?_⟩
  match i with
  |0 =>
   simp[Value.cells]at hs Vm;subst hs;subst Vm;refine⟨A0,cap,by simp;omega,by simp;omega,fun i m hi=>?_⟩;have Zm:i<n:=by
    have:=(List.getElem?_eq_some_iff.1 hi).1;simp at this;omega
   refine⟨ρ id,off,hA (by omega),h.iV hb,h.Pr hb hu (by simp),?_⟩;refine h.xT hb ?_;rw[bVT Zm,bWB]at hi;exact hi
  |i+1=>simp at hs
 ·cases hc
end
end AI
namespace AI
open Go Go.RowKit
def sQ:TypeDesc->Bool
 | .struct _ | .array _ _=>true
 |_=>false
def Mz(P:Program):TK->TypeDesc->Prop
 | .bool,d=>d=.bool
 | .int k,d=>d=.int k
 | .float k,d=>d=.float k
 | .other,d=>sQ d=false
 | .struct fs,d=>∃fields,d=.struct fields/\fs.length=fields.size/\∀(i:Nat) (f:Field),fields[i]?=some f->∃fi fd,P.info? f.type=some fi/\P.underlying f.type=some fd/\fs[i]?=some (f.offset,fi.size,sQ fd)
 | .arr len pQ g,d=>∃e ei ed,d=.array len e/\P.info? e=some ei/\ei.size=pQ/\P.underlying e=some ed/\sQ ed=g
 | .slice e,d=>d=.slice e
 | .str,d=>d=.string
def bDM:EK->TypeDesc->Bool
 | .int k,.int k'=>decide (k'=k)
 | .bool,.bool=>true
 | .float k,.float k'=>decide (k'=k)
 |_,_=>false
def eqChkF(P:Program):Nat->List Field->List EK->Bool
 |_,[],[]=>true
 |i,f :: r,k :: ks=>(f.name != "_")&&(bVP f.offset i&&((match P.underlying f.type with
  |some d=>bDM k d
  |none=>false)&&eqChkF P (i+1) r ks))
 |_,_,_=>false
def aYL(P:Program)(t:TypeId)(ks:List EK):Prop:=∃fields,P.underlying t=some (.struct fields)/\P.stoodInHeld t=false/\eqChkF P 0 fields.toList ks=true/\P.eqGuardType P.depth t=false
structure Af(P:Program)(t:TypeId)(ti:TI):Prop where
 i:∃i,P.info? t=some i/\i.size=ti.size/\i.bytes=ti.bytes/\∃z,i.zero=some z/\z.cells.toList=ti.zero
 zl:ti.zero.length=ti.size
 zo:∀v∈ti.zero,v.oneCell'=true
 d:∃d,P.underlying t=some d/\Mz P ti.kind d
 eq:∀ks,xH ti=some ks->aYL P t ks
def nU(P:Program)(T:TypeId->Option TI):Prop:=∀t ti,T t=some ti->Af P t ti
theorem Mz.agg{P:Program}{k:TK}{d:TypeDesc}(h:Mz P k d):sQ d=k.isAgg:=by
 cases k with
 |other=>exact h
 |struct fs=>obtain⟨f,rfl,_⟩:=h;rfl
 |arr l e g=>obtain⟨_,_,_,rfl,_⟩:=h;rfl
 |_=>cases h;rfl
section
variable {P:Program} {t:TypeId} {ti:TI} {w:World}
theorem Af.Oz(h:Af P t ti):(isAgg t).run P w=.ok ti.kind.isAgg w:=by
 obtain⟨d,hd,hk⟩:=h.d;rw[<-hk.agg];unfold isAgg;rw[Sem.run_bind,run_underlying hd];cases d <;> rfl
theorem Zv{k:EK}{c d:S}{p:Bool}(he:eqCell k c d=some p){f:TypeId}{desc:TypeDesc}(hu:P.underlying f=some desc)(hk:bDM k desc=true)(n:Nat) :
  ∃x y,c=.sc x/\d=.sc y/\(Op.equalIn (n+1) f x y).run P w=.ok p w/\∀(cs:Array Value) (i:Nat) (v:Value),cs[i]?=some v->(part f cs i).run P w=.ok v w:=by
 have bGO:(isAgg f).run P w=.ok false w->∀(cs:Array Value) (i:Nat) (v:Value),cs[i]?=some v->(part f cs i).run P w=.ok v w:=by
  intro ha cs i v hv;unfold part;rw[Sem.run_bind,ha];simp[hv]
 unfold eqCell at he;split at he
 ·split at he
  ·rename_i hh;obtain⟨rfl,rfl⟩:=hh;cases he;cases desc <;> first | (cases hk;done) |skip
   exact⟨_,_,rfl,rfl,run_equalIn_int w n f _ _ _ _ hu,bGO (by simp[isAgg,Sem.run_bind,run_underlying hu])⟩
  ·cases he
 ·cases he;cases desc <;> first | (cases hk;done) |skip
  exact⟨_,_,rfl,rfl,run_equalIn_bool w n f _ _ hu,bGO (by simp[isAgg,Sem.run_bind,run_underlying hu])⟩
 ·split at he
  ·rename_i hh;obtain⟨rfl,rfl⟩:=hh;cases he;cases desc <;> first | (cases hk;done) |skip
   exact⟨_,_,rfl,rfl,by simp[Op.equalIn,run_underlying hu,Op.floatEq],bGO (by simp[isAgg,Sem.run_bind,run_underlying hu])⟩
  ·cases he
 ·cases he
theorem aDM(d:Nat)(xs ys:Array Value):∀(fs:List Field) (ks:List EK) (i:Nat) (cs ds:List S) (q:Bool),eqChkF P i fs ks=true->eqInts ks cs ds=some q ->
  (∀(j:Nat) (c:Value),cs[j]?=some (.sc c)->xs[i+j]?=some c)->(∀(j:Nat) (c:Value),ds[j]?=some (.sc c)->ys[i+j]?=some c)->(Op.eqFields (d+1) xs ys fs).run P w=.ok q w
 | [],ks,i,cs,ds,q,h,he,hx,hy=>by
  cases ks with
  |cons=>cases h
  |nil =>
   have:q=true:=by cases cs <;> cases ds <;> simp[eqInts]at he <;> exact he
   subst this;rfl
 |f :: r,ks,i,cs,ds,q,h,he,hx,hy=>by
  cases ks with
  |nil=>cases h
  |cons k ks =>
   unfold eqChkF at h;simp only[bVU,bne_iff_ne,ne_eq]at h;obtain⟨hn,ho,hu,hr⟩:=h;have ho:=bWD ho;split at hu
   ·rename_i desc Vm;obtain⟨c,d',r1,r2,p,q',rfl,rfl,hp,hq,rfl⟩:∃c d' r1 r2 p q',cs=c :: r1/\ds=d' :: r2/\eqCell k c d'=some p/\eqInts ks r1 r2=some q'/\q=(p&&q'):=by
     clear hx hy
     match cs,ds,he with
     |c :: r1,d' :: r2,Be =>
      simp only[eqInts]at Be;split at Be
      ·rename_i p hp;obtain⟨q',hq,rfl⟩:=Option.map_eq_some_iff.1 Be;exact⟨c,d',r1,r2,p,q',rfl,rfl,hp,hq,rfl⟩
      ·cases Be
    obtain⟨a,b,rfl,rfl,heq,bBJ⟩:=Zv (w:=w) hp Vm hu d;have x0:=hx 0 _ rfl;have y0:=hy 0 _ rfl;have ih:=aDM d xs ys r ks (i+1) r1 r2 q' hr hq (fun j c hc=>by have:=hx (j+1) c hc;rwa [show i+(j+1)=i+1+j from by omega]at this) (fun j c hc=>by have:=hy (j+1) c hc;rwa [show i+(j+1)=i+1+j from by omega]at this);rw[bWM,<-ho]at x0 y0;simp only[Op.eqFields,ne_eq,hn,not_false_eq_true,if_true,Sem.run_bind,bBJ _ _ _ x0,bBJ _ _ _ y0,Result.andThen_ok,heq];cases p with
    |true=>simpa [Sem.run_ite] using ih
    |false=>simp
   ·cases hu
theorem aXC{ks:List EK}(h:aYL P t ks){xs ys:Array Value}{cs ds:List S}{q:Bool}(he:eqInts ks cs ds=some q)
  (hx:∀(j:Nat) (c:Value),cs[j]?=some (.sc c)->xs[j]?=some c) (hy:∀(j:Nat) (c:Value),ds[j]?=some (.sc c)->ys[j]?=some c) :
  (∀y z,(do eqGuard .eql t y z (.agg xs) (.agg ys);binOp .eql t (.agg xs) (.agg ys):Sem Value).run P w=.ok (.bool q) w)/\(∀y z,(do eqGuard .neq t y z (.agg xs) (.agg ys);binOp .neq t (.agg xs) (.agg ys):Sem Value).run P w=.ok (.bool (!q)) w):=by
 obtain⟨fields,hu,hs,hf,hg⟩:=h;have aHI:P.fieldsOf t=fields:=by simp[Program.fieldsOf,hu]
 have hr:(Op.equal t (.agg xs) (.agg ys)).run P w=.ok q w:=by
  show(Op.equalIn (9999+1) t (.agg xs) (.agg ys)).run P w=_;rw[run_equalIn_struct w 9999 t xs ys (by rw[aHI];exact hu) hs,aHI];exact aDM (w:=w) 9998 xs ys fields.toList ks 0 cs ds q hf he (fun j c hc=>by rw[bVQ];exact hx j c hc) (fun j c hc=>by rw[bVQ];exact hy j c hc)
 constructor <;> intro y z <;> rw[Sem.run_bind,run_eqGuard_agg (w:=w) _ t y z xs ys hg,Result.andThen_ok]
 ·show(do pure (Value.bool (<-Op.equal t (.agg xs) (.agg ys))):Sem Value).run P w=_;rw[Sem.run_bind,hr];rfl
 ·show(do pure (Value.bool (!(<-Op.equal t (.agg xs) (.agg ys)))):Sem Value).run P w=_;rw[Sem.run_bind,hr];rfl
theorem Af.run_sizeOf(h:Af P t ti):(sizeOf t).run P w=.ok ti.size w:=by
 obtain⟨i,hi,hs,_⟩:=h.i;simp[sizeOf,typeInfo,hi,hs]
theorem Af.aJD(h:Af P t ti):∃z,(zeroValue t).run P w=.ok z w/\z.cells.toList=ti.zero:=by
 obtain⟨i,hi,hs,hb,z,hz,hc⟩:=h.i;exact⟨z,by simp[zeroValue,typeInfo,hi,hz],hc⟩
end
theorem aT{α:Type}{l:List α}{i:Nat}{x:α}(h:l[i]?=some x):i<l.length:=(List.getElem?_eq_some_iff.1 h).1
theorem bB{α:Type}{l:List α}{i:Nat}(h:i<l.length):∃x,l[i]?=some x:=⟨l[i],bWF h⟩
theorem lI(b off n:Nat):(⟨b,off,none⟩:Addr).add n=⟨b,off+n,none⟩:=by unfold Addr.add;split <;> simp_all
theorem Ub{X:Nat->Prop}{w:World}{zs:List Value}(hz:∀v∈zs,v.oneCell'=true):iK X w (zs.map .sc) zs:=by
 refine⟨by simp,fun i s u hs hu=>?_⟩;simp only[bVS,hu,bWC,Option.some.injEq]at hs;subst hs;exact⟨rfl,hz u (bVX hu)⟩
theorem aHR{X:Nat->Prop}{w:World}{zs:List Value}(wd:Option IntKind)(hz:∀v∈zs,v.oneCell'=true):iK X w (zs.map (wideS wd)) zs:=by
 refine⟨by simp,fun i s u hs hu=>?_⟩;simp only[bVS,hu,bWC,Option.some.injEq]at hs;subst hs;have h0:=hz u (bVX hu);unfold wideS;split
 ·exact⟨rfl,h0⟩
 ·split
  ·exact⟨none,0,rfl,bVO _,fun i n hn=>by simp at hn⟩
  ·exact⟨rfl,h0⟩
theorem iK.cells{X:Nat->Prop}{w:World}{cs:List S}{arr:Array Value}(h:iK X w cs arr.toList):yD X w (.cells cs) arr :=
 ⟨by have:=h.1;simp at this;omega,fun i s hs=>by
  have jB:=aT hs;rw[h.1]at jB;obtain⟨u,hu⟩:=bB jB;exact⟨u,by simpa using hu,h.2 i s u hs hu⟩⟩
theorem Jb{P:Program}{X:Nat->Prop}{w:World}{t:TypeId}{ti:TI}(hT:Af P t ti){b off:Nat}{cs:List S}(hc:∀(i:Nat) (s:S),cs[i]?=some s->∃u,w.cell? ⟨b,off+i,none⟩=some u/\nO X w s u)
  {j:Nat} {x:V} (hp:partOf ti cs j=some x) {ρ:Nat->Nat} {hp':Nat->Option jT}:∃v,(loadVar t ⟨b,off+j,none⟩).run P w=.ok v w/\Ew ρ hp' X w x v/\refsV x=[]:=by
 unfold partOf at hp;unfold loadVar;rw[Sem.run_bind,hT.Oz,Result.andThen_ok];split at hp
 ·rename_i Zp;split at hp
  ·rename_i hle;cases hp;rw[if_pos Zp,Sem.run_bind,hT.run_sizeOf,Result.andThen_ok];have hex:∀i,i<ti.size->∃u,w.cell? ⟨b,off+j+i,none⟩=some u/\∀s,cs[j+i]?=some s->nO X w s u:=by
    intro i hi;obtain⟨s,hs⟩:=bB (l:=cs) (i:=j+i) (by omega);obtain⟨u,hu,hr⟩:=hc (j+i) s hs;refine⟨u,by rw[<-hu];congr 2;omega,fun s' rP=>?_⟩;rw[hs]at rP;cases rP;exact hr
   obtain⟨f,hf⟩:∃f:Nat->Value,∀i,i<ti.size->w.cell? ⟨b,off+j+i,none⟩=some (f i)/\∀s,cs[j+i]?=some s->nO X w s (f i) :=
    ⟨fun i=>if h:i<ti.size then Classical.choose (hex i h)else undef,fun i hi=>by simp only[hi,dif_pos];exact Classical.choose_spec (hex i hi)⟩
   have hl:=run_loadCells_list (P:=P) w ⟨b,off+j,none⟩ ((bXB ti.size).map f) (fun i v hv=>by
    have hi:=aT hv;simp at hi;rw[lI,(hf i hi).1];simpa [hi] using hv)
   simp only[bXC,List.length_range]at hl;rw[Sem.run_bind,hl];refine⟨_,rfl,⟨_,rfl,⟨by simp;omega,fun i s u hs hu=>?_⟩⟩,rfl⟩;have hi:=aT hu;simp at hi;have Vm:u=f i:=by simpa [hi] using hu.symm
   subst Vm;refine(hf i hi).2 s ?_;rw[bVT hi,bWB]at hs;exact hs
  ·cases hp
 ·rename_i Zp;split at hp <;> cases hp;rename_i c bJQ;obtain⟨u,hu,hr⟩:=hc j c bJQ;refine⟨u,?_,hr,rfl⟩;rw[if_neg (by simpa using Zp),run_load,hu]
theorem List.pY{α:Type}(cs new:List α)(off i:Nat)(h:off+new.length<=cs.length) :
  (cs.take off ++ (new ++ cs.drop (off+new.length)))[i]?=if off<=i/\i<off+new.length then new[i-off]? else cs[i]?:=by
 by_cases h1:i<off
 ·rw[bWU (by simp;omega),bVT h1,aW]
 ·rw[bWV (by simp;omega)];have e:(cs.take off).length=off:=by simp;omega
  rw[e]
  by_cases h2:i<off+new.length
  ·rw[bWU (by omega),aU]
  ·rw[bWV (by omega),aW,bWB];congr 1;omega
theorem Uh{X:Nat->Prop}{w:World}{cs new:List S}{arr:Array Value}{aET:List Value}(h:yD X w (.cells cs) arr)(hn:iK X w new aET){off:Nat}(hle:off+new.length<=cs.length) :
  yD X w (.cells (setAt cs off new)) (arr.toList.take off ++ (aET ++ arr.toList.drop (off+aET.length))).toArray:=by
 have h1:=h.1;have h2:off+aET.length<=arr.toList.length:=by rw[<-hn.1];simp;omega
 refine⟨by simp[setAt];have:=hn.1;omega,fun i s hs=>?_⟩;unfold setAt at hs;rw[List.pY _ _ _ _ hle]at hs;have e:(arr.toList.take off ++ (aET ++ arr.toList.drop (off+aET.length))).toArray[i]?=(arr.toList.take off ++ (aET ++ arr.toList.drop (off+aET.length)))[i]?:=by simp
 rw[e,List.pY _ _ _ _ h2,<-hn.1];split at hs
 ·rename_i hi;rw[if_pos hi];have jB:=aT hs;rw[hn.1]at jB;obtain⟨u,hu⟩:=bB jB;exact⟨u,hu,hn.2 _ s u hs hu⟩
 ·rename_i hi;rw[if_neg hi];obtain⟨u,hu,hr⟩:=h.2 i s hs;exact⟨u,by simpa using hu,hr⟩
theorem Yj{X:Nat->Prop}{w:World}{cs new:List S}{vs aET:List Value}(h:iK X w cs vs)(hn:iK X w new aET){off:Nat}(hle:off+new.length<=cs.length) :
  iK X w (setAt cs off new) (vs.take off ++ (aET ++ vs.drop (off+aET.length))):=by
 have h1:=h.1;have h2:=hn.1;refine⟨by unfold setAt;simp;omega,fun i s u hs hu=>?_⟩;unfold setAt at hs;rw[List.pY cs new off i hle]at hs;rw[List.pY vs aET off i (by omega)]at hu
 by_cases hi:off<=i/\i<off+new.length
 ·rw[if_pos hi]at hs;rw[aU]at hu;exact hn.2 _ s u hs hu
 ·rw[if_neg hi]at hs;rw[aW]at hu;exact h.2 _ s u hs hu
end AI
namespace AI
open Go Go.RowKit
def nS(al:Nat->Prop)(id:Nat):Nat->Prop:=fun i=>al i\/(id<=i/\i<id+8)
section
variable {P:Program} {E:Env} {X:Nat->Prop} {w0:Old} {ρ:Nat->Nat} {al:Nat->Prop} {fr:Nat->A} {hp:Nat->Option jT} {a:Act} {w:World} {o:Oper} {id:Nat} {x:A} {u:pS}
def jA(P:Program)(E:Env)(X:Nat->Prop)(w0:Old)(al:Nat->Prop)(fr:Nat->A)(hp:Nat->Option jT)(a:Act)(w:World)(o:Oper)(id:Nat)(x:A)(u:pS):Prop :=
 ∃ρ' v w',((execOp a.eval o).run P w=.ok (.value v) w'\/((execOp a.eval o).run P w=.ok .skip w'/\v=undef))/\iU E X w0 ρ' (nS al id) (Cp o x fr) (applyUps u hp) (a.put o.dst v) w'
theorem iU.more(h:iU E X w0 ρ al fr hp a w)(id:Nat):iU E X w0 ρ (nS al id) fr hp a w :=
 { fr:=h.fr,sz:=h.sz,nod:=h.nod,blk:=h.blk,inj:=h.inj,alh:=fun i b hb=>.inl (h.alh i b hb),alr:=fun t i hi=>.inl (h.alr t i hi),below:=h.below,x0:=h.x0,glob:=h.glob,mg:=h.mg,al0:=fun i hi=>.inl (h.al0 i hi),vD:=h.vD }
theorem cA(h:iU E X w0 ρ al fr hp a w)(hd:iT E.nt o=true){v:Value}(gF:(execOp a.eval o).run P w=.ok (.value v) w)(hx:wA ρ hp (XO X ρ hp) w x v)(bAW:∀i∈refs x,al i) :
  jA P E X w0 al fr hp a w o id x [] :=
 ⟨ρ,v,w,.inl gF,(h.more id).pure hd hx (fun i hi=>.inl (bAW i hi))⟩
theorem mG(v:Value):refs (Bo v)=[]:=rfl
theorem Wj(h:iU E X w0 ρ al fr hp a w)(hd:iT E.nt o=true){y:Operand}(ho:o.op=.move y\/o.op=.assign y)(he:pV E id o (evA E fr) hp=some (x,u)):jA P E X w0 al fr hp a w o id x u:=by
 have h1:=h.ev y;rcases ho with ho |ho
 all_goals
  unfold pV effK at he;rw[ho]at he;cases he;exact cA h hd (v:=a.eval y) (by unfold execOp;rw[ho];rfl) h1.1 h1.2
theorem aMC(h:iU E X w0 ρ al fr hp a w)(hd:iT E.nt o=true){c y z:Operand}(ho:o.op=.pick c y z)(he:pV E id o (evA E fr) hp=some (x,u)):jA P E X w0 al fr hp a w o id x u:=by
 have hc:=(h.ev c).1;have hy:=h.ev y;have hz:=h.ev z;have gF:∀t,a.eval c=.bool t->(execOp a.eval o).run P w=.ok (.value (if t then a.eval y else a.eval z)) w:=by
  intro t ht;unfold execOp;rw[ho];simp[ht,asBool]
 unfold pV effK at he;rw[ho]at he;simp only at he;split at he
 ·rename_i t bJO;rw[bJO]at hc;have aWJ:a.eval c=.bool t:=hc.1;split at he
  ·rename_i p q zS Nm;cases he;rw[zS]at hy;rw[Nm]at hz;have e1:a.eval y=.bool p:=hy.1.1;have e2:a.eval z=.bool q:=hz.1.1;refine cA h hd (gF t aWJ) ?_ (by simp[mG]);rw[e1,e2];cases t <;> exact⟨rfl,rfl⟩
  ·cases t <;> cases he
   ·exact cA h hd (gF false aWJ) (by simpa using hz.1) hz.2
   ·exact cA h hd (gF true aWJ) (by simpa using hy.1) hy.2
 ·cases he
theorem qE(id:Nat):nS al id id:=.inr ⟨bVO _,by omega⟩
theorem Kg(e:TypeId)(v:Value):(newVar e v).run P w=.ok ⟨w.heap.size,0,none⟩ (w.alloc (.cells v.cells e)):=rfl
theorem aFX(h:iU E X w0 ρ al fr hp a w)(hd:iT E.nt o=true)(hT:nU P E.T)(vI:∀j,j<8->¬al (id+j)){e:TypeId}(ho:o.op=.alloc e)(he:pV E id o (evA E fr) hp=some (x,u)):jA P E X w0 al fr hp a w o id x u:=by
 unfold pV effK at he;rw[ho]at he;simp only at he;split at he
 ·rename_i ti xA;cases he;have ht:=hT e ti xA;obtain⟨z,hz,Nx⟩:=ht.aJD (w:=w);have Hy:yD (XO X ρ hp) w (.cells (ti.zero.map (wideS E.wide))) z.cells:=by
   refine iK.cells ?_;rw[Nx];exact aHR E.wide ht.zo
  have h1:=h.alloc (id:=id) (al':=nS al id) (vI 0 (by omega)) (fun _ h=>.inl h) (qE id) e _ _ Hy;refine⟨_,.pointer (some ⟨w.heap.size,0,none⟩),_,.inl ?_,h1.pure hd (x:=.v (.one (.ptr id 0))) ?_ ?_⟩
  ·unfold execOp;rw[ho];simp only[Instr.alloc,Sem.run_bind,hz,Result.andThen_ok,Sem.run_pure,Kg]
  ·show _=_;rw[bJ]
  ·intro i hi;simp only[refs,refsV,refsL,bWG]at hi;subst hi;exact qE i
 ·cases he
theorem aRK(h:iU E X w0 ρ al fr hp a w)(hd:iT E.nt o=true)(vI:∀j,j<8->¬al (id+j)){e:TypeId}{y:Operand}(ho:o.op=.box e y)(he:pV E id o (evA E fr) hp=some (x,u)):jA P E X w0 al fr hp a w o id x u:=by
 unfold pV effK at he;rw[ho]at he;simp only at he;split at he
 ·rename_i ti cs u1 xA Ry;split at he <;> cases he;obtain⟨hu,Hy⟩:=vY h (h.ev y).1 Ry;have h0:=h.cons hu;have h1:=h0.alloc (id:=id) (al':=nS al id) (vI 0 (by omega)) (fun _ h=>.inl h) (qE id) e (.cells cs) _ Hy.cells;unfold jA;rw[kR];refine⟨_,.pointer (some ⟨w.heap.size,0,none⟩),_,.inl ?_,h1.pure hd (x:=.v (.one (.ptr id 0))) ?_ ?_⟩
  ·unfold execOp;rw[ho];simp only[Instr.box,Sem.run_bind,Result.andThen_ok,Sem.run_pure,Kg]
  ·show _=_;rw[bJ]
  ·intro i hi;simp only[refs,refsV,refsL,bWG]at hi;subst hi;exact qE i
 ·cases he
theorem aMD(h:iU E X w0 ρ al fr hp a w)(hd:iT E.nt o=true)(hT:nU P E.T){t:TypeId}{y:Operand}(ho:o.op=.load t y)(he:pV E id o (evA E fr) hp=some (x,u)):jA P E X w0 al fr hp a w o id x u:=by
 have hy:=(h.ev y).1;have gF:∀ad v,a.eval y=.pointer (some ad)->(loadVar t ad).run P w=.ok v w->(execOp a.eval o).run P w=.ok (.value v) w:=by
  intro ad v h1 h2;unfold execOp;rw[ho];simp only[h1,Instr.loadAt,Instr.sureAddr,Sem.run_bind,Sem.run_pure,Result.andThen_ok,h2]
 unfold pV effK at he;rw[ho]at he;simp only at he;split at he
 ·rename_i ti xA;have ht:=hT t ti xA;split at he
  ·rename_i i off iP;rw[iP]at hy;have hy:a.eval y=.pointer (some ⟨ρ i,off,none⟩):=hy;split at he
   ·rename_i e cs hb;obtain⟨_,arr,hg,hc⟩:=h.blk i _ hb;split at he <;> cases he;rename_i v hv;obtain⟨v',h1,h2,h3⟩:=Jb (P:=P) ht (b:=ρ i) (off:=0) (cs:=cs) (fun j s hs=>by
     obtain⟨u,hu,hr⟩:=hc.2 j s hs;exact⟨u,by rw[cell_of_row w (ρ i) _ arr e (0,0) hg];simpa using hu,hr⟩) hv (ρ:=ρ) (hp':=hp)
    rw[bVQ]at h1;exact cA h hd (gF _ _ hy h1) h2 (by simp[refs,h3])
   ·cases he
  ·rename_i i j iP;rw[iP]at hy;obtain⟨hy,jB⟩:=hy;split at he
   ·rename_i e k ns hb Zp;cases he;have hj:=jB _ k ns hb rfl;have hc:=h.xT hb (bWF hj);refine cA h hd (v:=.int k (ns.getD j 0)) (gF _ _ hy ?_) ⟨rfl,rfl⟩ (by simp[mG]);unfold loadVar;rw[Sem.run_bind,ht.Oz,Result.andThen_ok,if_neg (by simp[Zp]),run_load,hc];simp[bXI,hj]
   ·cases he
  ·rename_i cs iP;rw[iP]at hy;obtain⟨b,off,hy,hc⟩:=hy;split at he <;> cases he;rename_i v hv;obtain⟨v',h1,h2,h3⟩:=Jb (P:=P) ht (b:=b) (off:=off) (cs:=cs) (fun j s hs=>by
    obtain⟨_,_,u,hu,hr⟩:=hc j s hs;exact⟨u,hu,hr⟩) hv (ρ:=ρ) (hp':=hp)
   rw[bWM]at h1;exact cA h hd (gF _ _ hy h1) h2 (by simp[refs,h3])
  ·rename_i z iP;rw[iP]at hy;obtain⟨hz,b,off,hy,hb,hx,hc⟩:=hy;split at he <;> cases he;rename_i v hv;obtain⟨v',h1,h2,h3⟩:=Jb (P:=P) ht (b:=b) (off:=off) (cs:=[.sc z]) (fun j s hs=>by
    match j with
    |0=>simp at hs;subst hs;exact⟨z,hc,⟨rfl,hz⟩⟩
    |j+1=>simp at hs) hv (ρ:=ρ) (hp':=hp)
   rw[bWM]at h1;exact cA h hd (gF _ _ hy h1) h2 (by simp[refs,h3])
  ·cases he
 ·cases he
theorem Ei(h:iU E X w0 ρ al fr hp a w):∀{Gn:List Operand} {xs:List Value} {u:pS},capsOf hp (Gn.map (evA E fr))=some (xs,u) ->
  Cons u/\(∀U,Cons U->(∀p∈u,p∈U)->Qg (XO X ρ (applyUps U hp)) w xs (Gn.map a.eval))
 | [],xs,u,hc=>by cases hc;exact⟨(fun p hp=>by cases hp),fun _ _ _=>⟨rfl,fun i x p hx=>by simp at hx⟩⟩
 |c :: Gn,xs,u,hc=>by
  rw[bVN]at hc;have iP:=(h.ev c).1;generalize hA:evA E fr c=A0 at hc iP;unfold capsOf at hc;split at hc
  ·rename_i he;cases he
  ·rename_i i r he;cases he;split at hc
   ·rename_i e x bPG u' hb hr;cases hc;obtain⟨hu,Gf⟩:=Ei h hr;have bCP:Cons ((i,none) :: u'):=fun p hp=>by
     rcases List.mem_cons.1 hp with rfl |hp
     ·rfl
     ·exact hu p hp
    refine⟨bCP,fun U hU aFB=>?_⟩;obtain⟨hl,hp⟩:=Gf U hU (fun p hp=>aFB p (bVZ _ hp));refine⟨by simp[hl],fun j y p hy hp'=>?_⟩
    match j with
    |0 =>
     simp at hy hp';subst hy;subst hp';have hv:a.eval c=.pointer (some ⟨ρ i,0,none⟩):=iP;obtain⟨_,arr,hg,Ry⟩:=h.blk i _ hb;obtain⟨v,Rt,bFA⟩:=Ry.2 0 (.sc x) rfl;obtain⟨rfl,Le⟩:=bFA;exact⟨Le,ρ i,0,hv,h.iV hb,h.Pr hb hU (aFB _ (by simp)),by rw[cell_of_row w (ρ i) _ arr e (0,0) hg];exact Rt⟩
    |j+1=>exact hp j y p (by simpa using hy) (by simpa using hp')
   ·cases hc
  ·cases hc
theorem Sl(h:iU E X w0 ρ al fr hp a w)(hd:iT E.nt o=true){f:FuncId}{Gn:Array Operand}(ho:o.op=.makeFunc (.func f) ⟨[]⟩ Gn)(he:pV E id o (evA E fr) hp=some (x,u)):jA P E X w0 al fr hp a w o id x u:=by
 obtain⟨Gn⟩:=Gn;unfold pV effK at he;rw[ho]at he;simp only at he;split at he <;> cases he;rename_i xs hc;obtain⟨hu,Gf⟩:=Ei h hc;have h0:=h.cons hu;unfold jA;refine⟨_,.func (.func f) #[] (Gn.map a.eval).toArray,_,.inl ?_,(h0.more id).pure hd (x:=.v (.one (.s (.Sr f xs)))) ⟨_,rfl,Gf u hu fun _ h=>h⟩ (by intro i hi;simp[refs,refsV,refsL]at hi)⟩;unfold execOp;rw[ho];simp[Instr.makeFunc]
theorem kQ{g:Nat}{arr:Array Value}{e:TypeId}{f:Nat×Nat}(h:w.heap[g]?=some (.cells arr e f)):lA w g=arr.size:=by unfold lA;rw[h]
theorem aFR(h:iU E X w0 ρ al fr hp a w)(hd:iT E.nt o=true)(hT:nU P E.T){t:TypeId}{y z:Operand}(ho:o.op=.store t y z)(he:pV E id o (evA E fr) hp=some (x,u)):jA P E X w0 al fr hp a w o id x u:=by
 have hy:=(h.ev y).1;have hz:=(h.ev z).1;have gF:∀ad w',a.eval y=.pointer (some ad)->(storeVar t ad (a.eval z)).run P w=.ok () w'->(execOp a.eval o).run P w=.ok .skip w':=by
  intro ad w' h1 h2;unfold execOp;rw[ho];simp only[h1,Instr.storeAt,Instr.sureAddr,Sem.run_bind,Sem.run_pure,Result.andThen_ok,h2]
 unfold pV effK at he;rw[ho]at he;simp only at he;split at he
 ·rename_i ti xA;have ht:=hT t ti xA;split at he
  ·rename_i i off iP;rw[iP]at hy;have hy:a.eval y=.pointer (some ⟨ρ i,off,none⟩):=hy;split at he
   ·rename_i e cs new u1 hb bTE;split at he <;> cases he;rename_i Ll;obtain⟨Hl,bIU,bRC⟩:=Ll;obtain⟨hu,Hy⟩:=vY h hz bTE;have h0:=h.cons hu;have hb0:applyUps u1 hp i=some ⟨e,.cells cs⟩:=by
     have:∀(u:pS) (hp:Nat->Option jT),(u.all fun p=>p.1 !=i)=true->applyUps u hp i=hp i:=by
      intro u
      induction u with
      |nil=>intros;rfl
      |cons p u ih =>
       intro hp zW;obtain⟨j,c⟩:=p;simp only[List.all_cons,bVU,bne_iff_ne]at zW;rw[applyUps,ih _ zW.2,fM _ _ (fun e=>zW.1 e.symm)]
     rw[this u1 hp bRC];exact hb
    obtain⟨_,arr,hg,hc⟩:=h0.blk i _ hb0;have sF:cs.length<=arr.size:=hc.1;have bMP:(a.eval z).cells.size=new.length:=by have:=Hy.1;simpa using this.symm
    have Le:∀v∈(a.eval z).cells.toList,v.oneCell'=true:=by
     intro v hv;obtain⟨k,hk⟩:=bWO hv;obtain⟨s,hs⟩:=bB (l:=new) (i:=k) (by rw[Hy.1];exact aT hk);exact(Hy.2 k s v hs hk).one
    have aCV:=run_storeCells_at P (ρ i) off e (a.eval z).cells.toList 0 arr w hg (by simp;omega) Le;simp only[bWM]at aCV;have h1:=h0.setRow hb0 (.cells (setAt cs off new)) (arr.toList.take off ++ ((a.eval z).cells.toList ++ arr.toList.drop (off+(a.eval z).cells.toList.length))).toArray
     ⟨fun k ns e=>(by cases e),fun Ma e=>by cases e;exact⟨cs,rfl,by simp[setAt];omega⟩⟩ (by rw[kQ hg];simp;omega) (Uh hc Hy bIU)
    unfold jA;rw[kR];refine⟨ρ,undef,_,.inr ⟨gF _ _ hy ?_,rfl⟩,(h1.more id).pure hd (x:=.any) trivial (by simp[refs])⟩;unfold storeVar;rw[Sem.run_bind,ht.run_sizeOf,Result.andThen_ok,if_neg (by rw[bMP,Hl];simp),aCV];simp[bXJ]
   ·cases he
  ·rename_i i j iP;rw[iP]at hy;obtain⟨hy,jB⟩:=hy;split at he
   ·rename_i e k ns k' n hb bSY;split at he <;> cases he;rename_i hk;obtain⟨rfl,Xu⟩:=hk;have hj:=jB _ k ns hb rfl;rw[bSY]at hz;have hz:a.eval z=.int k n:=hz.1;obtain⟨_,arr,hg,hc⟩:=h.blk i _ hb;have bNJ:j<arr.size:=bWL hj hc.1;have aCV:=run_storeCells_at P (ρ i) j e [.int k n] 0 arr w hg (by simp;omega) (by simp[Value.oneCell']);simp only[bWM]at aCV;have bID:(arr.toList.take j ++ [Value.int k n] ++ arr.toList.drop (j+[Value.int k n].length)).toArray=arr.setIfInBounds j (.int k n):=by
     apply Array.ext';simp only[Array.toList_setIfInBounds,List.length_cons,List.length_nil];rw[List.set_eq_take_append_cons_drop,if_pos (by simpa using bNJ)];simp
    rw[bID]at aCV;have h1:=h.setRow hb (.ints k (ns.set j n)) (arr.setIfInBounds j (.int k n)) ⟨fun k1 Xq e=>(by cases e;exact⟨k,ns,rfl,by simp⟩),fun Ma e=>(by cases e)⟩ (by rw[kQ hg];simp) (by
     refine⟨by simpa using hc.1,fun l m hl=>?_⟩;rw[List.getElem?_set]at hl;rw[Array.getElem?_setIfInBounds];split at hl
     ·rename_i aKW;subst aKW;rw[if_pos rfl,if_pos bNJ];first | (cases hl;rfl) | (split at hl <;> cases hl;rfl)
     ·rename_i aKW;rw[if_neg aKW];exact hc.2 l m hl)
    refine⟨ρ,undef,_,.inr ⟨gF _ _ hy ?_,rfl⟩,(h1.more id).pure hd (x:=.any) trivial (by simp[refs])⟩;unfold storeVar;rw[Sem.run_bind,ht.run_sizeOf,Result.andThen_ok,hz,if_neg (by simp[Value.cells,Xu])];exact aCV
   ·cases he
  ·cases he
 ·cases he
theorem Eo{u:pS}(hu:Cons u)(hp:Nat->Option jT)(i:Nat):applyUps u hp i=if i∈u.map (·.1)then none else hp i:=by
 induction u generalizing hp with
 |nil=>rfl
 |cons p u ih =>
  obtain⟨j,c⟩:=p;have hc:c=none:=hu (j,c) (by simp);subst hc;rw[applyUps,ih (fun p hp=>hu p (by simp[hp]))]
  by_cases aZA:i=j
  ·subst aZA;rw[bJ];simp
  ·rw[fM _ _ aZA];simp only[bVN,bWW,aZA,false_or]
theorem iK.Px{cs:List S}{vs:List Value}{u1 u2:pS}(h1:Cons u1)(h2:Cons u2)(hs:∀i,i∈u1.map (·.1)->i∈u2.map (·.1))(h:iK (XO X ρ (applyUps u1 hp)) w cs vs):iK (XO X ρ (applyUps u2 hp)) w cs vs:=by
 refine h.later ⟨bVO _,fun b _ hx=>⟨rfl,fun ho=>hx (ho.imp (fun h=>h) ?_)⟩⟩;rintro ⟨i,bl,hb,hr⟩;refine⟨i,bl,?_,hr⟩;rw[Eo h2]at hb;rw[Eo h1];split at hb
 ·cases hb
 ·rename_i hn;rw[if_neg (fun h=>hn (hs i h))];exact hb
theorem Vy(off:Nat):∀(vs:List Value) (k:Nat) (arr:Array Value),off+k+vs.length<=arr.size ->
  ((vs.zipIdx k).foldl (fun cs p=>cs.setIfInBounds (off+p.2) p.1) arr).toList=arr.toList.take (off+k) ++ vs ++ arr.toList.drop (off+k+vs.length)
 | [],k,arr,_=>by simp
 |v :: vs,k,arr,h=>by
  simp only[List.zipIdx_cons,List.foldl_cons];rw[Vy off vs (k+1) (arr.setIfInBounds (off+k) v) (by simp at h ⊢;omega)];simp only[Array.toList_setIfInBounds];have:=list_seg_step arr.toList (off+k) v vs (by simp at h ⊢;omega);simpa [Nat.add_assoc] using this
theorem lU{R:Type}(hp:Nat->Option jT)(place:Nat->Option (Nat×Nat))(ev:Operand->A)(parts:List (Nat×Operand))(cs:List S)(u:pS)(K:List S->pS->Option R) :
  fillK hp place ev parts cs u K=(fillK hp place ev parts cs u (fun cs u=>some (cs,u))).bind fun r=>K r.1 r.2:=by
 induction parts generalizing cs u with
 |nil=>rfl
 |cons p rest ih =>
  obtain⟨i,y⟩:=p;simp only[fillK];split
  ·split
   ·exact ih _ _
   ·rfl
  ·rfl
theorem xP(h:iU E X w0 ρ al fr hp a w)(place:Nat->Option (Nat×Nat)):∀(parts:List (Nat×Operand)) (cs:List S) (u:pS) (arr:Array Value) (Ma:List S) (u':pS),
  Cons u->iK (XO X ρ (applyUps u hp)) w cs arr.toList->fillK hp place (evA E fr) parts cs u (fun cs u=>some (cs,u))=some (Ma,u') ->
  Cons u'/\∃nN,Instr.fill place arr (parts.map fun p=>(p.1,a.eval p.2))=some nN/\iK (XO X ρ (applyUps u' hp)) w Ma nN.toList/\nN.size=arr.size
 | [],cs,u,arr,Ma,u',hu,hr,he=>by cases he;exact⟨hu,arr,rfl,hr,rfl⟩
 | (i,y) :: rest,cs,u,arr,Ma,u',hu,hr,he=>by
  simp only[fillK]at he;split at he
  ·rename_i off size new u1 Pl bTF;split at he
   ·rename_i Ll;obtain⟨aKN,hn⟩:=vY h (h.ev y).1 bTF;have sF:(a.eval y).cells.size=size:=by have:=hn.1;simp at this;omega
    have hle:off+(a.eval y).cells.size<=arr.size:=by have:=hr.1;simp at this;omega
    have bJN:Cons (u ++ u1):=fun p hp=>(List.mem_append.1 hp).elim (hu p) (aKN p)
    have bRL:iK (XO X ρ (applyUps (u ++ u1) hp)) w cs arr.toList:=hr.Px hu bJN (fun i hi=>by simp only[bWP,bWR];exact .inl hi);have aFE:iK (XO X ρ (applyUps (u ++ u1) hp)) w new (a.eval y).cells.toList:=hn.Px aKN bJN (fun i hi=>by simp only[bWP,bWR];exact .inr hi);have aVO:=Yj bRL aFE Ll.2;have bCK:=Vy off (a.eval y).cells.toList 0 arr (by simpa using hle);obtain⟨aAH,aTS⟩:∃aAH,aAH=(a.eval y).cells.zipIdx.foldl (fun cs p=>cs.setIfInBounds (off+p.2) p.1) arr:=⟨_,rfl⟩;have Hl:aAH.toList=arr.toList.take off ++ ((a.eval y).cells.toList ++ arr.toList.drop (off+(a.eval y).cells.toList.length)):=by
     rw[aTS,<-Array.foldl_toList,Array.toList_zipIdx,bCK];simp[bXJ]
    rw[<-Hl]at aVO;have bHX:aAH.size=arr.size:=by
     have:aAH.toList.length=arr.toList.length:=by rw[Hl];simp;omega
     simpa using this
    obtain⟨bJM,nN,hf,Hy,hs⟩:=xP h place rest (setAt cs off new) (u ++ u1) aAH Ma u' bJN aVO he;refine⟨bJM,nN,?_,Hy,hs.trans bHX⟩;rw[bVN,Instr.fill,Pl];simp only;rw[if_neg (by simp;omega)];have e:(Array.foldl (fun cs (x:Value×Nat)=>match x with | (c,j)=>cs.setIfInBounds (off+j) c) arr (a.eval y).cells.zipIdx)=aAH:=aTS.symm;rw[e];exact hf
   ·cases he
  ·cases he
theorem zL{α β:Type}{f:α->Option β}:∀{l:List α} {r:List β},l.mapM f=some r->r.length=l.length
 | [],r,h=>by simp at h;subst h;rfl
 |x :: l,r,h=>by
  rw[bWX]at h;simp only[bXT,bXU,bXV,Option.some.injEq]at h;obtain⟨y,_,ys,bQP,rfl⟩:=h;simp[zL bQP]
theorem aFV(h:iU E X w0 ρ al fr hp a w)(hd:iT E.nt o=true)(hT:nU P E.T){t:TypeId}{parts:Array (Nat×Operand)}(ho:o.op=.build t parts)(he:pV E id o (evA E fr) hp=some (x,u)):jA P E X w0 al fr hp a w o id x u:=by
 have fin:∀(nN:Array Value) cs u,(execOp a.eval o).run P w=.ok (.value (.agg nN)) w->Cons u->iK (XO X ρ (applyUps u hp)) w cs nN.toList->jA P E X w0 al fr hp a w o id (.v (.agg cs)) u:=by
  intro nN cs u gF hu Hy;exact⟨ρ,.agg nN,w,.inl gF,((h.cons hu).more id).pure hd ⟨nN,rfl,Hy⟩ (by simp[refs,refsV])⟩
 have hex:∀r,(Instr.build t (parts.map fun p=>(p.1,a.eval p.2))).run P w=.ok r w->(execOp a.eval o).run P w=.ok (.value r) w:=by
  intro r hr;unfold execOp;rw[ho];simp only[Sem.run_bind];rw[hr];rfl
 unfold pV effK at he;rw[ho]at he;simp only at he;split at he
 ·rename_i size bytes zero fs xA;have ht:=hT t _ xA;obtain⟨i,hi,_,_,z,hz,Nx⟩:=ht.i;obtain⟨d,uY,fields,rfl,aZD,hf⟩:=ht.d;rw[lU]at he;obtain⟨⟨cs,u2⟩,Vu,he⟩:=Option.bind_eq_some_iff.1 he;cases he;obtain⟨hu,nN,h1,h2,h3⟩:=xP h _ parts.toList _ [] z.cells cs u2 (fun p hp=>by cases hp) (by rw[Nx];exact Ub ht.zo) Vu;refine fin nN cs u2 (hex _ ?_) hu h2;obtain⟨vO,Pl,bRR⟩:∃vO:List (Nat×Nat),fields.toList.mapM (fun f=>(P.info? f.type).map fun i=>(f.offset,i.size))=some vO/\∀(k:Nat) (p:Nat×Nat),vO[k]?=some p->(fs[k]?).map (fun(f:Nat×Nat×Bool)=>(f.1,f.2.1))=some p:=by
   have:∀(l:List Field) (s:Nat),(∀(k:Nat) (f:Field),l[k]?=some f->∃fi fd,P.info? f.type=some fi/\P.underlying f.type=some fd/\fs[s+k]?=some (f.offset,fi.size,sQ fd)) ->
     ∃vO:List (Nat×Nat),l.mapM (fun f=>(P.info? f.type).map fun i=>(f.offset,i.size))=some vO/\∀(k:Nat) (p:Nat×Nat),vO[k]?=some p->(fs[s+k]?).map (fun(f:Nat×Nat×Bool)=>(f.1,f.2.1))=some p:=by
    intro l
    induction l with
    |nil=>intro s _;exact⟨[],rfl,fun k p hk=>by simp at hk⟩
    |cons f l ih =>
     intro s hl;obtain⟨fi,fd,e1,e2,e3⟩:=hl 0 f rfl;obtain⟨pl,p1,p2⟩:=ih (s+1) (fun k g hk=>by have:=hl (k+1) g (by simpa using hk);rwa [show s+(k+1)=s+1+k by omega]at this);refine⟨(f.offset,fi.size) :: pl,by simp[bWX,e1,p1],fun k p hk=>?_⟩
     match k with
     |0=>simp at hk;subst hk;simp at e3;simp[e3]
     |k+1=>simp at hk;have:=p2 k p hk;rwa [show s+1+k=s+(k+1) by omega]at this
   obtain⟨pl,p1,p2⟩:=this fields.toList 0 (fun k f hk=>by rw[bVQ];exact hf k f (by simpa using hk));exact⟨pl,p1,fun k p hk=>by have:=p2 k p hk;rwa [bVQ]at this⟩
  refine run_build w t _ nN ?_;unfold Program.built;simp only[hi,uY,hz,Pl,Array.toList_map];have Pm:∀(ps:List (Nat×Value)) (arr:Array Value) r,Instr.fill (fun i=>(fs[i]?).map fun(f:Nat×Nat×Bool)=>(f.1,f.2.1)) arr ps=some r->Instr.fill (vO.toArray[·]?) arr ps=some r:=by
   intro ps
   induction ps with
   |nil=>intro arr r h;exact h
   |cons p ps ih =>
    intro arr r h;obtain⟨i,v⟩:=p;unfold Instr.fill at h ⊢;cases hq:vO[i]? with
    |none =>
     have h1:vO.length=fields.size:=by simpa using (zL Pl)
     have h2:fs[i]?=none:=bXK (by have:=List.getElem?_eq_none_iff.1 hq;omega);simp[h2]at h
    |some q =>
     have:=bRR i q hq;simp only[this]at h;have bRO:vO.toArray[i]?=some q:=by simp[hq]
     simp only[bRO];obtain⟨o1,s1⟩:=q;simp only at h ⊢;split at h
     ·cases h
     ·rename_i hc;rw[if_neg hc];exact ih _ _ h
  have e:parts.toList.map (fun p=>(p.1,a.eval p.2))=parts.toList.map (fun x=>(x.fst,a.eval x.snd)):=rfl;rw[e]at h1;exact Pm _ _ _ h1
 ·rename_i size bytes zero len pQ g xA;have ht:=hT t _ xA;obtain⟨i,hi,_,_,z,hz,Nx⟩:=ht.i;obtain⟨d,uY,e,ei,ed,rfl,aDC,aQO,_,_⟩:=ht.d;rw[lU]at he;obtain⟨⟨cs,u2⟩,Vu,he⟩:=Option.bind_eq_some_iff.1 he;cases he;obtain⟨hu,nN,h1,h2,h3⟩:=xP h _ parts.toList _ [] z.cells cs u2 (fun p hp=>by cases hp) (by rw[Nx];exact Ub ht.zo) Vu;refine fin nN cs u2 (hex _ ?_) hu h2;refine run_build w t _ nN ?_;unfold Program.built;simp only[hi,uY,hz,aDC,Array.toList_map];subst aQO;exact h1
 ·cases he
end
end AI
namespace AI
open Go Go.RowKit
section
variable {P:Program} {E:Env} {X:Nat->Prop} {w0:Old} {ρ:Nat->Nat} {al:Nat->Prop} {fr:Nat->A} {hp:Nat->Option jT} {a:Act} {w:World} {o:Oper} {id:Nat} {x:A} {u:pS}
theorem Ht(w:World)(t e:TypeId)(len:Nat)(parts:Array (Nat×Value))(cells:Array Value)(ie:TypeInfo)(z:Value)
  (hu:P.underlying t=some (.slice e)) (bNK:P.info? e=some ie) (hz:ie.zero=some z) (aVP:¬len*ie.size>2^24)
  (h:Instr.fill (fun i=>some (i*ie.size,ie.size)) ((Array.range (len*ie.size)).map (z.cells[·%z.cells.size]!)) parts.toList=some cells) :
  (Instr.buildSlice t len parts).run P w=.ok (.slice (some ⟨w.heap.size,0,none⟩) len len) (w.alloc (.cells cells e)):=by
 by_cases qI:len*ie.size=0
 ·rw[qI]at h;have hr:∀f:Nat->Value,(Array.range 0).map f=#[]:=fun f=>by rw[show Array.range 0=(#[]:Array Nat)from by simp];simp
  rw[hr]at h;simp[Instr.buildSlice,run_underlying hu,sizeOf,typeInfo,bNK,qI,hr,h,newRow]
 ·simp[Instr.buildSlice,run_underlying hu,sizeOf,typeInfo,zeroValue,bNK,hz,aVP,qI,h,newRow]
theorem Ep{k:IntKind}:∀{cs:List S} {ns:List Int},allInts k cs=some ns->cs=ns.map fun n=>.sc (.int k n)
 | [],ns,h=>by cases h;rfl
 | .sc (.int k' n) :: r,ns,h=>by
  simp only[allInts]at h;split at h
  ·rename_i hk;subst hk;obtain⟨ms,aQK,rfl⟩:=Option.map_eq_some_iff.1 h;rw[Ep aQK];rfl
  ·cases h
 | .ints _ _ :: _,_,h=>by cases h
 | .bot :: _,_,h=>by cases h
 | .sc (.bool _) :: _,_,h=>by cases h
 | .sc (.float _ _) :: _,_,h=>by cases h
 | .sc (.complex _ _ _) :: _,_,h=>by cases h
 | .sc (.string _) :: _,_,h=>by cases h
 | .sc (.pointer _) :: _,_,h=>by cases h
 | .sc (.slice _ _ _) :: _,_,h=>by cases h
 | .sc (.map _) :: _,_,h=>by cases h
 | .sc (.chan _) :: _,_,h=>by cases h
 | .sc (.func _ _ _) :: _,_,h=>by cases h
 | .sc .nilFunc :: _,_,h=>by cases h
 | .sc (.iface _ _) :: _,_,h=>by cases h
 | .sc .nilIface :: _,_,h=>by cases h
 | .sc (.agg _) :: _,_,h=>by cases h
 | .sc (.tuple _) :: _,_,h=>by cases h
theorem Nw{Y:Nat->Prop}{k:IntKind}{ns:List Int}{arr:Array Value}(h:iK Y w (ns.map fun n=>.sc (.int k n)) arr.toList):yD Y w (.ints k ns) arr/\arr.size=ns.length:=by
 have hl:ns.length=arr.size:=by have:=h.1;simpa using this
 refine⟨⟨by omega,fun i n hn=>?_⟩,hl.symm⟩;obtain⟨v,hv⟩:=bB (l:=arr.toList) (i:=i) (by have:=aT hn;simp;omega);have:=(h.2 i (.sc (.int k n)) v (by simp[hn]) hv).1;subst this;simpa using hv
theorem Kw{n:Nat}(h:n<=16777216):n<=maxLen:=by unfold maxLen;omega
theorem Lx(h:iU E X w0 ρ al fr hp a w)(hd:iT E.nt o=true)(hT:nU P E.T)(vI:∀j,j<8->¬al (id+j)){t:TypeId}{len:Nat}{parts:Array (Nat×Operand)}(ho:o.op=.buildSlice t len parts)(he:pV E id o (evA E fr) hp=some (x,u)):jA P E X w0 al fr hp a w o id x u:=by
 unfold pV effK at he;rw[ho]at he;simp only at he;split at he
 ·rename_i s0 b0 z0 e xA;have ht:=hT t _ xA;obtain⟨d,uY,Dg⟩:=ht.d;have Dg:d=.slice e:=Dg;subst Dg;split at he
  ·rename_i size bytes zero kind Hx;have Lc:=hT e _ Hx;obtain⟨ie,hi,sF,_,z,hz,Nx⟩:=Lc.i;have sF:ie.size=size:=sF;have Nx:z.cells.toList=zero:=Nx;have bMG:zero.length=size:=Lc.zl;split at he
   ·rename_i Ll;obtain⟨Xu,Nl⟩:=Ll;rw[lU]at he;obtain⟨⟨cs,u2⟩,Vu,he⟩:=Option.bind_eq_some_iff.1 he;simp only at he;have bCF:iK (XO X ρ (applyUps [] hp)) w ((bXB (len*size)).map fun i=>S.sc (zero.getD (i%size) undef)) ((Array.range (len*ie.size)).map (z.cells[·%z.cells.size]!)).toList:=by
     refine⟨by simp[sF],fun i s v hs hv=>?_⟩;have hi:=aT hs;simp at hi;have aTD:z.cells.size=size:=by rw[<-bMG,<-Nx];simp
     have hm:i%size<zero.length:=by rw[bMG];exact Nat.mod_lt _ Nl
     simp[hi]at hs;subst hs;have aTK:i%size<z.cells.size:=by rw[aTD];exact Nat.mod_lt _ Nl
     simp[sF,hi,aTD]at hv;have e1:z.cells[i%size]! = zero[i%size]:=by
      rw[getElem!_pos z.cells (i%size) aTK];simp[<-Nx]
     rw[e1]at hv;subst hv;have e2:zero[i%size]?.getD undef=zero[i%size]:=by simp[hm]
     rw[e2];exact⟨rfl,Lc.zo _ (List.getElem_mem hm)⟩
    obtain⟨hu,nN,h1,h2,h3⟩:=xP h _ parts.toList _ [] _ cs u2 (fun p hp=>by cases hp) bCF Vu;have h3:nN.size=len*size:=by rw[h3];simp[sF]
    have gF:=Ht (P:=P) w t e len (parts.map fun p=>(p.1,a.eval p.2)) nN ie z uY hi hz (by rw[sF];omega) (by rw[Array.toList_map];subst sF;exact h1);have hex:(execOp a.eval o).run P w=.ok (.value (.slice (some ⟨w.heap.size,0,none⟩) len len)) (w.alloc (.cells nN e)):=by
     unfold execOp;rw[ho];simp only[Sem.run_bind];rw[gF];rfl
    have h0:=h.cons hu;have fin:∀c,yD (XO X ρ (applyUps u2 hp)) w c nN->(∀k ns,c=.ints k ns->len=ns.length/\nN.size=len)->(∀Ma,c=.cells Ma->Ma.length=len*size) ->
      jA P E X w0 al fr hp a w o id (.v (.one (.buf id len))) (u2 ++ [(id,some ⟨e,c⟩)]):=by
     intro c hc hints jO;have h1:=h0.alloc (id:=id) (al':=nS al id) (vI 0 (by omega)) (fun _ h=>.inl h) (qE id) e c nN hc;unfold jA;rw[kR];refine⟨_,_,_,.inl hex,h1.pure hd (x:=.v (.one (.buf id len))) ?_ ?_⟩
     ·refine⟨len,by rw[bJ],bVO _,fun blk k ns hb hk=>?_,fun blk Ma hb hk=>?_⟩
      rotate_left
      ·rw[bJ]at hb;cases hb;refine⟨size,jO Ma hk,?_,Kw ?_⟩
       ·rw[bJ,kQ (wO w _)];omega
       ·have:len<=len*size:=bXX _ Nl;omega
      rw[bJ]at hb;cases hb;obtain⟨h5,h6⟩:=hints k ns hk;refine⟨h5,Kw ?_,?_⟩
      ·have:len<=len*size:=bXX _ Nl;omega
      ·rw[bJ,kQ (wO w _)];omega
     ·intro i hi;simp only[refs,refsV,refsL,bWG]at hi;subst hi;exact qE i
    split at he
    ·split at he <;> cases he;rename_i k ns zW;have Ry:=Ep zW;rw[Ry]at h2;obtain⟨h5,h6⟩:=Nw h2;refine fin _ h5 (fun k1 Xq e1=>?_) (fun Ma e1=>by cases e1);cases e1;simp at h3;exact⟨by omega,h3⟩
    ·cases he;exact fin _ h2.cells (fun k ns e1=>by cases e1) (fun Ma e1=>by cases e1;have:=h2.1;simp at this;omega)
   ·cases he
  ·cases he
 ·cases he
theorem aFQ{X:Nat->Prop}{w:World}(hT:nU P E.T){t:TypeId}{cs ds:List S}{q:Bool}(he:eqAgg (E.T t) cs ds=some q){xs ys:Array Value}(hx:iK X w cs xs.toList)(hy:iK X w ds ys.toList) :
  (∀y z,(do eqGuard .eql t y z (.agg xs) (.agg ys);binOp .eql t (.agg xs) (.agg ys):Sem Value).run P w=.ok (.bool q) w)/\(∀y z,(do eqGuard .neq t y z (.agg xs) (.agg ys);binOp .neq t (.agg xs) (.agg ys):Sem Value).run P w=.ok (.bool (!q)) w):=by
 unfold eqAgg at he;split at he
 ·rename_i ti xA;split at he
  ·rename_i ks bSD;have bOQ:∀{cs:List S} {xs:Array Value},iK X w cs xs.toList->∀(j:Nat) (c:Value),cs[j]?=some (.sc c)->xs[j]?=some c:=by
    intro cs xs h j c hc;have jB:j<xs.toList.length:=by rw[<-h.1];exact(List.getElem?_eq_some_iff.1 hc).1
    have hv:xs.toList[j]?=some xs.toList[j]:=bWF jB;have:=(h.2 j _ _ hc hv).1;rw[this]at hv;simpa using hv
   exact aXC ((hT t ti xA).eq ks bSD) he (bOQ hx) (bOQ hy)
  ·cases he
 ·cases he
theorem aFW(h:iU E X w0 ρ al fr hp a w)(hd:iT E.nt o=true)(hT:nU P E.T){op:BinOp}{t t':TypeId}{y z:Operand}(ho:o.op=.binOp op t y z t')(he:pV E id o (evA E fr) hp=some (x,u)):jA P E X w0 al fr hp a w o id x u:=by
 have hy:=(h.ev y).1;have hz:=(h.ev z).1;unfold pV effK at he;rw[ho]at he;simp only at he;split at he
 ·rename_i p q zS Nm;rw[zS]at hy;rw[Nm]at hz;have e1:a.eval y=p:=hy.1;have e2:a.eval z=q:=hz.1;cases hb:boolT (E.T t) p with
  |false=>rw[hb]at he;cases he
  |true =>
   rw[hb]at he;simp only[cond_true]at he;rw[Gu]at he;obtain⟨r,hr,he⟩:=Option.bind_eq_some_iff.1 he;cases he;obtain⟨h1,h2⟩:=aGC (P:=P) op t y z p q r w (fun b bRS=>by
    subst bRS;unfold boolT at hb;simp only at hb;split at hb
    ·rename_i s0 b0 z0 xA;obtain⟨d,bNQ,aZH⟩:=(hT t _ xA).d;have aZH:d=.bool:=aZH;subst aZH;exact bNQ
    ·cases hb) hr
   refine cA h hd (v:=r) ?_ ⟨rfl,h2⟩ (by simp[mG]);unfold execOp;rw[ho];simp only[e1,e2];rw[Sem.run_bind,h1];rfl
 ·rename_i cs ds zS Nm;rw[zS]at hy;rw[Nm]at hz;cases hb:eqAgg (E.T t) cs ds with
  |none=>rw[hb]at he;cases he
  |some b =>
   rw[hb]at he;simp only at he;obtain⟨xs,e1,rx⟩:∃arr,a.eval y=.agg arr/\_:=hy;obtain⟨ys,e2,ry⟩:∃arr,a.eval z=.agg arr/\_:=hz;have gF:=aFQ (P:=P) hT hb rx ry;cases op <;> simp only at he <;> cases he
   ·refine cA h hd (v:=.bool b) ?_ ⟨rfl,rfl⟩ (by simp[mG]);unfold execOp;rw[ho];simp only[e1,e2];rw[Sem.run_bind,gF.1];rfl
   ·refine cA h hd (v:=.bool (!b)) ?_ ⟨rfl,rfl⟩ (by simp[mG]);unfold execOp;rw[ho];simp only[e1,e2];rw[Sem.run_bind,gF.2];rfl
 ·cases he
theorem aMB(h:iU E X w0 ρ al fr hp a w)(hd:iT E.nt o=true){op:UnOp}{t:TypeId}{y:Operand}(ho:o.op=.unOp op t y)(he:pV E id o (evA E fr) hp=some (x,u)):jA P E X w0 al fr hp a w o id x u:=by
 have hy:=(h.ev y).1;unfold pV effK at he;rw[ho]at he;simp only at he;split at he
 ·rename_i p zS;rw[zS]at hy;have e1:a.eval y=p:=hy.1;rw[Jn]at he;obtain⟨r,hr,he⟩:=Option.bind_eq_some_iff.1 he;cases he;obtain⟨h1,h2⟩:=aHX (P:=P) op p r w hr;refine cA h hd (v:=r) ?_ ⟨rfl,h2⟩ (by simp[mG]);unfold execOp;rw[ho];simp only[e1,Sem.run_bind,h1,Result.andThen_ok,Sem.run_pure]
 ·cases he
theorem aAA{s d:TypeId}{ds dd:TypeDesc}{k:TK}(h1:P.underlying s=some ds)(h2:P.underlying d=some dd)(h3:Mz P k dd){p r:Value}(h:convK k p some=some r) :
  (convert s d p).run P w=.ok r w/\r.oneCell'=true:=by
 unfold convert;simp only[Sem.run_bind,run_underlying h1,run_underlying h2,Result.andThen_ok];unfold convK at h;split at h
 ·have h3:dd=.int _:=h3;subst h3;cases h;exact⟨rfl,rfl⟩
 ·have h3:dd=.float _:=h3;subst h3;cases h;exact⟨rfl,rfl⟩
 ·have h3:dd=.int _:=h3;subst h3;obtain⟨n,hn,h⟩:=Option.bind_eq_some_iff.1 h;split at h <;> cases h;rename_i hb;refine⟨?_,rfl⟩;simp[Conv.floatToInt,hn,hb]
 ·have h3:dd=.float _:=h3;subst h3;split at h <;> cases h;rename_i hs;refine⟨?_,rfl⟩;simp[Conv.floatToFloat,hs]
 ·cases h
theorem Wl(h:iU E X w0 ρ al fr hp a w)(hd:iT E.nt o=true)(hT:nU P E.T){s d:TypeId}{y:Operand}(ho:o.op=.convert s d y)(he:pV E id o (evA E fr) hp=some (x,u)):jA P E X w0 al fr hp a w o id x u:=by
 have hy:=(h.ev y).1;unfold pV effK at he;rw[ho]at he;simp only at he;split at he
 ·rename_i t1 ti p hs uY zS;rw[zS]at hy;have e1:a.eval y=p:=hy.1;rw[Cw]at he;obtain⟨r,hr,he⟩:=Option.bind_eq_some_iff.1 he;cases he;obtain⟨ds,aZE,_⟩:=(hT s _ hs).d;obtain⟨dd,aTO,hk⟩:=(hT d _ uY).d;obtain⟨h1,h2⟩:=aAA (P:=P) (w:=w) aZE aTO hk hr;refine cA h hd (v:=r) ?_ ⟨rfl,h2⟩ (by simp[mG]);unfold execOp;rw[ho];simp only[e1,Sem.run_bind,h1,Result.andThen_ok,Sem.run_pure]
 ·cases he
theorem Wk(h:iU E X w0 ρ al fr hp a w)(hd:iT E.nt o=true){y:Operand}{i:Nat}(ho:o.op=.extract y i)(he:pV E id o (evA E fr) hp=some (x,u)):jA P E X w0 al fr hp a w o id x u:=by
 have hy:=h.ev y;unfold pV effK at he;rw[ho]at he;simp only at he;split at he
 ·rename_i xs bQS;split at he <;> cases he;rename_i v hv;rw[bQS]at hy;obtain⟨⟨arr,ha,hl,hr⟩,qW⟩:=hy;obtain⟨q,hq⟩:∃q,arr[i]?=some q:=by
   have:=aT hv;exact⟨arr[i],Array.getElem?_eq_getElem (by omega)⟩
  refine cA h hd (v:=q) ?_ (hr i v q hv hq) (fun j hj=>qW j (List.mem_flatMap.2 ⟨v,bVX hv,hj⟩));unfold execOp;rw[ho];simp[Instr.extract,ha,hq]
 ·cases he
theorem rL{y:Operand}{k:IntKind}{n:Int}(h:iU E X w0 ρ al fr hp a w)(he:intArg (evA E fr y)=some (k,n)):a.eval y=.int k n:=by
 have hy:=(h.ev y).1;unfold intArg at he;split at he
 ·rename_i k' n' iP;cases he;rw[iP]at hy;exact hy.1
 ·cases he
theorem Od(h:iU E X w0 ρ al fr hp a w)(hd:iT E.nt o=true)(hT:nU P E.T){t:TypeId}{y:Operand}{f:Nat}(ho:o.op=.fieldAddr t y f)(he:pV E id o (evA E fr) hp=some (x,u)):jA P E X w0 al fr hp a w o id x u:=by
 have hy:=h.ev y;unfold pV effK at he;rw[ho]at he;simp only at he;split at he
 ·rename_i s0 b0 z0 fs xA;obtain⟨d,uY,fields,rfl,aZD,hf⟩:=(hT t _ xA).d;have gF:∀b off o1 size g,fs[f]?=some (o1,size,g)->0<size->a.eval y=.pointer (some ⟨b,off,none⟩)->(execOp a.eval o).run P w=.ok (.value (.pointer (some ⟨b,off+o1,none⟩))) w:=by
   intro b off o1 size g aHI qI iP;have jB:=aT aHI;obtain⟨fi,fd,e1,e2,e3⟩:=hf f fields[f] (Array.getElem?_eq_getElem (by omega));rw[aHI]at e3;cases e3;unfold execOp;rw[ho];have bJC:fields[f]?=some fields[f]:=Array.getElem?_eq_getElem (by omega);simp only[iP,Instr.fieldAt,Instr.sureAddr,Sem.run_bind,run_underlying uY,Result.andThen_ok,bJC,Sem.run_pure,fieldPlace,sizeOf,typeInfo,run_program,e1];rw[aW];simp[lI]
  split at he
  ·rename_i off size g i o1 aHI iP;split at he <;> cases he;rename_i qI;rw[iP]at hy;exact cA h hd (gF _ _ _ _ _ aHI qI hy.1) rfl hy.2
  ·rename_i off size g cs aHI iP;split at he <;> cases he;rename_i qI;rw[iP]at hy;obtain⟨⟨b,aVA,hb,hc⟩,_⟩:=hy;refine cA h hd (gF _ _ _ _ _ aHI qI hb) ⟨b,aVA+off,rfl,fun i s hs=>?_⟩ (by simp[refs,refsV,refsL]);rw[bWB]at hs;have:=hc (off+i) s hs;rwa [show aVA+(off+i)=aVA+off+i by omega]at this
  ·cases he
 ·cases he
theorem Km{t:TypeId}{fi:TypeInfo}{fd:TypeDesc}(h1:P.info? t=some fi)(h2:P.underlying t=some fd){Y:Nat->Prop}{cs:List S}{arr:Array Value}(hr:iK Y w cs arr.toList){off:Nat}{v:V}
  (he:(bif sQ fd then(if off+fi.size<=cs.length then some (V.agg ((cs.drop off).take fi.size))else none)else(cs[off]?).map fun c=>V.one (.s c))=some v) :
  ∃q,(part t arr off).run P w=.ok q w/\Ew ρ hp Y w v q/\refsV v=[]:=by
 have hl:cs.length=arr.size:=by simpa using hr.1
 have Zp:(isAgg t).run P w=.ok (sQ fd) w:=by
  unfold isAgg;rw[Sem.run_bind,run_underlying h2];cases fd <;> rfl
 unfold part;rw[Sem.run_bind,Zp,Result.andThen_ok];cases hg:sQ fd with
 |true =>
  rw[hg]at he;simp only[cond_true]at he;split at he <;> cases he;rename_i hle;refine⟨_,by rw[if_pos rfl,Sem.run_bind];simp only[sizeOf,typeInfo,Sem.run_bind,run_program,Result.andThen_ok,h1,Sem.run_pure];rfl,⟨_,rfl,?_⟩,rfl⟩;refine⟨by simp;omega,fun i s q hs hq=>?_⟩;have hi:i<fi.size:=by have:=aT hs;simp at this;omega
  rw[bVT hi,bWB]at hs;refine hr.2 (off+i) s q hs ?_;have jB:=aT hs;simp at hq;rw[bVT (by omega),bWB]at hq;exact hq
 |false =>
  rw[hg]at he;simp only[cond_false]at he;obtain⟨c,hc,rfl⟩:=Option.map_eq_some_iff.1 he;have jB:=aT hc;have hq:arr[off]?=some arr[off]:=Array.getElem?_eq_getElem (by omega);refine⟨arr[off],by simp[hq],hr.2 off c _ hc (by simp[<-hq]),rfl⟩
theorem aFU(h:iU E X w0 ρ al fr hp a w)(hd:iT E.nt o=true)(hT:nU P E.T){t:TypeId}{y:Operand}{f:Nat}(ho:o.op=.field t y f)(he:pV E id o (evA E fr) hp=some (x,u)):jA P E X w0 al fr hp a w o id x u:=by
 have hy:=(h.ev y).1;unfold pV effK at he;rw[ho]at he;simp only at he;split at he
 ·rename_i s0 b0 z0 fs xA;obtain⟨d,uY,fields,rfl,aZD,hf⟩:=(hT t _ xA).d;split at he
  ·rename_i off size g cs aHI iP;split at he <;> cases he;rename_i v hv;rw[iP]at hy;obtain⟨arr,ha,hr⟩:=hy;have jB:=aT aHI;obtain⟨fi,fd,e1,e2,e3⟩:=hf f fields[f] (Array.getElem?_eq_getElem (by omega));rw[aHI]at e3;cases e3;obtain⟨q,Nm,bIH,bIG⟩:=Km (P:=P) (ρ:=ρ) (hp:=hp) e1 e2 hr hv;refine cA h hd (v:=q) ?_ bIH (by simp[refs,bIG]);have bJC:fields[f]?=some fields[f]:=Array.getElem?_eq_getElem (by omega);unfold execOp;rw[ho];simp only[Instr.field,Sem.run_bind,run_underlying uY,Result.andThen_ok,bJC,ha,asAgg,Sem.run_pure,Nm]
  ·cases he
 ·cases he
theorem aFT(h:iU E X w0 ρ al fr hp a w)(hd:iT E.nt o=true)(hT:nU P E.T){t:TypeId}{y z:Operand}(ho:o.op=.index t y z)(he:pV E id o (evA E fr) hp=some (x,u)):jA P E X w0 al fr hp a w o id x u:=by
 have hy:=(h.ev y).1;unfold pV effK at he;rw[ho]at he;simp only at he;split at he
 ·rename_i s0 b0 z0 len pQ g cs k n xA iP bCD;have hz:=rL h bCD;split at he
  ·rename_i jB;rw[aQE cs jB]at he;split at he <;> cases he;rename_i v hv;rw[iP]at hy;obtain⟨arr,ha,hr⟩:=hy;obtain⟨d,uY,e,ei,ed,rfl,aDC,aQO,bNO,bNN⟩:=(hT t _ xA).d;subst aQO;subst bNN;obtain⟨q,Nm,bIH,bIG⟩:=Km (P:=P) (ρ:=ρ) (hp:=hp) aDC bNO hr hv;refine cA h hd (v:=q) ?_ bIH (by simp[refs,bIG]);unfold execOp;rw[ho];simp only[Instr.index,Sem.run_bind,hz,asIntOf,Sem.run_pure,run_underlying uY,Result.andThen_ok,ha];rw[if_pos jB];simp only[sizeOf,typeInfo,Sem.run_bind,run_program,Result.andThen_ok,aDC,Sem.run_pure,Nm]
  ·cases he
 ·rename_i s0 b0 z0 s k n xA iP bCD;have hz:=rL h bCD;split at he
  ·rename_i jB;cases he;rw[iP]at hy;obtain⟨ha,_⟩:=hy;obtain⟨d,uY,rfl⟩:=(hT t _ xA).d;refine cA h hd (v:=.int .u8 (Hg s n)) ?_ ⟨rfl,rfl⟩ (by intro i hi;cases hi);unfold execOp;rw[ho];have bBY:n.toNat<s.size:=by omega
   have hs:(if 0<=n then s[n.toNat]? else none)=some s[n.toNat]:=by
    rw[if_pos jB.1];exact getElem?_pos s n.toNat bBY
   have aCV:Hg s n=(s[n.toNat].toNat:Int):=by
    unfold Hg;rw[getElem?_pos s n.toNat bBY]
   simp only[Instr.index,Sem.run_bind,hz,asIntOf,Sem.run_pure,run_underlying uY,Result.andThen_ok,ha,hs,aCV]
  ·cases he
 ·cases he
end
end AI
namespace AI
open Go Go.RowKit
section
variable {P:Program} {E:Env} {X:Nat->Prop} {w0:Old} {ρ:Nat->Nat} {al:Nat->Prop} {fr:Nat->A} {hp:Nat->Option jT} {a:Act} {w:World} {o:Oper} {id:Nat} {x:A} {u:pS}
theorem zB{R:Type}{n:Int}{K:Nat->Option R}{r:R}:∀{m j:Nat},splitN n m j K=some r->∃i,j<=i/\i<j+m/\n=(i:Int)/\K i=some r
 |0,_,h=>by cases h
 |m+1,j,h=>by
  unfold splitN at h
  by_cases hc:n=(j:Int)
  ·rw[decide_eq_true hc]at h;exact⟨j,bVO _,by omega,hc,h⟩
  ·rw[decide_eq_false hc]at h;obtain⟨i,h1,h2,h3,h4⟩:=zB (m:=m) (j:=j+1) h;exact⟨i,by omega,by omega,h3,h4⟩
theorem aEY{R:Type}{sh:Bool}{hp:Nat->Option jT}{t:TI}{pQ:Nat}{x:A}{n:Int}{K:A->Option R}{r:R}(h:idxS sh hp t pQ x n K=some r):idxK hp t pQ x n K=some r:=by
 unfold idxS at h;split at h
 ·split at h
  ·obtain⟨i,_,_,hn,h⟩:=zB h;rw[hn];exact h
  ·exact h
 ·exact h
theorem wrap_small{n:Int}(h0:0<=n)(h1:n<=room):i64.wrap n=n:=by
 unfold room at h1;unfold IntKind.wrap;simp only[IntKind.bits,IntKind.signed];have e:n%(2^64:Int)=n:=by omega
 simp only[e];rw[if_neg (by simp;omega)]
theorem run_make(w:World)(t e:TypeId)(i:TypeInfo)(z:Value)(hu:P.underlying t=some (.slice e))(hi:P.info? e=some i)(hz:i.zero=some z)(kl kc:IntKind)(l c:Int)(h0:0<=l)(h1:l<=c)(h2:c<=room)(hb:i.bytes<=8) :
  (Instr.makeSlice t (.int kl l) (.int kc c)).run P w=.ok (.slice (some ⟨w.heap.size,0,none⟩) l.toNat c.toNat) (w.alloc (.cells ((Array.range (c.toNat*i.size)).map (z.cells[·%z.cells.size]!)) e)):=by
 have e1:i64.wrap l=l:=wrap_small h0 (by omega);have e2:i64.wrap c=c:=wrap_small (by omega) h2;have hbc:¬((i.bytes:Int)*c>2^48):=by
  have:(i.bytes:Int)*c<=8*c:=bXY (by omega) (by omega);unfold room at h2;omega
 have Jd:¬((i.bytes:Int)*l>2^48):=by
  have:(i.bytes:Int)*l<=8*l:=bXY (by omega) (by omega);unfold room at h2;omega
 unfold Instr.makeSlice;simp only[Sem.run_bind,run_underlying hu,Result.andThen_ok,asInt,asIntOf,Sem.run_pure,typeInfo,run_program,hi,e1,e2];rw[if_neg (by simp;omega)];have sF:∀w:World,(sizeOf e).run P w=.ok i.size w:=fun w=>by simp[sizeOf,typeInfo,hi]
 have aKJ:∀w:World,(zeroValue e).run P w=.ok z w:=fun w=>by simp[zeroValue,typeInfo,hi,hz]
 simp only[Sem.run_bind,run_askRoom,Result.andThen_ok,sF]
 by_cases hc:c.toNat*i.size=0
 ·rw[if_pos hc];have e0:∀(f g:Nat->Value),Array.map f (Array.range 0)=Array.map g (Array.range 0):=fun f g=>by simp[Array.range]
  simp only[Sem.run_bind,Sem.run_pure,Result.andThen_ok,hc];rw[e0 _ (fun x=>z.cells[x%z.cells.size]!)];rfl
 ·rw[if_neg hc];simp only[Sem.run_bind,aKJ,Sem.run_pure,Result.andThen_ok];rfl
theorem Ob (h : iU E X w0 ρ al fr hp a w) (hd : iT E.nt o = true) (hT : nU P E.T) (vI : ∀ j, j < 8 → ¬ al (id + j)) {t : TypeId} {y z : Operand} (ho : o.op = .makeSlice t y z) (he : pV E id o (evA E fr) hp = some (x, u)) : jA P E X w0 al fr hp a w o id x u := by
  unfold pV effK at he
  rw [ho] at he
  simp only at he
  split at he
  · rename_i s0 b0 z0 e k1 l k2 c xA bIR bNF
    have hy := rL h bIR
    have hz := rL h bNF
    have ht := hT t _ xA
    obtain ⟨d, uY, Dg⟩ := ht.d
    have Dg : d = .slice e := Dg
    subst Dg
    split at he
    · rename_i bytes k0 z0' k Hx
      have Lc := hT e _ Hx
      obtain ⟨i, hi, sF, aTQ, zv, aKJ, Nx⟩ := Lc.i
      split at he
      · rename_i Lm
        split at he <;> cases he
        rename_i Ll
        obtain ⟨h0, h1, h2⟩ := Ll
        have sF : i.size = 1 := sF
        have aTQ : i.bytes = bytes := aTQ
        have gF := run_make (P := P) w t e i zv uY hi aKJ k1 k2 l c h0 h1 h2 (by omega)
        obtain ⟨_, _, rfl, rfl⟩ := Lm
        have Nx : zv.cells.toList = [.int k0 0] := Nx
        have aTD : zv.cells.size = 1 := by have : zv.cells.toList.length = 1 := by rw [Nx]; rfl
                                           simpa using this
        have aKK : zv.cells[0]! = .int k0 0 := by
          rw [getElem!_pos zv.cells 0 (by omega)]
          have : zv.cells.toList[0]? = some (.int k0 0) := by rw [Nx]; rfl
          simpa [Array.getElem?_eq_getElem (show 0 < zv.cells.size by omega)] using this
        have h3 := h.alloc (id := id) (al' := nS al id) (vI 0 (by omega)) (fun _ h => .inl h) (qE id) e (.ints k0 (bXR l.toNat 0)) ((Array.range (c.toNat * i.size)).map (zv.cells[· % zv.cells.size]!)) (by
          refine ⟨by simp [sF]; omega, fun j n hn => ?_⟩
          have hj := aT hn
          simp at hj
          rw [List.getElem?_replicate, if_pos (by omega)] at hn
          cases hn
          have bSJ : j < c.toNat := by omega
          simp only [aTD, Nat.mod_one, aKK, sF, bVY]
          simp [bSJ])
        refine ⟨_, .slice (some ⟨w.heap.size, 0, none⟩) l.toNat c.toNat, _, .inl ?_, h3.pure hd (x := .v (.one (.buf id l.toNat))) ?_ ?_⟩
        · unfold execOp
          rw [ho]
          simp only [hy, hz, Sem.run_bind, gF, Result.andThen_ok, Sem.run_pure]
        · refine ⟨c.toNat, by rw [bJ], by omega, fun blk k' ns hb hk => ?_, fun blk cs hb hk => by rw [bJ] at hb; cases hb; cases hk⟩
          rw [bJ] at hb
          cases hb
          cases hk
          refine ⟨by simp, by unfold room at h2; unfold maxLen; omega, ?_⟩
          rw [bJ, kQ (wO w _)]
          simp [sF]
        · intro i hi
          simp only [refs, refsV, refsL, bWG] at hi
          subst hi
          exact qE i
      · cases he
    · cases he
  · cases he
theorem wR(h:iU E X w0 ρ al fr hp a w){d l:Int}{y:Option Operand}(he:bndA d (y.map (evA E fr))=some l):(y=none/\l=d)\/∃z k,y=some z/\a.eval z=.int k l:=by
 cases y with
 |none=>cases he;exact .inl ⟨rfl,rfl⟩
 |some z =>
  refine .inr ⟨z,?_⟩;have hz:=(h.ev z).1;simp only[bWC]at he;unfold bndA at he;split at he
  ·cases ‹some _=none›
  ·rename_i k n iP;cases he;have iP:evA E fr z=.v (.one (.s (.sc (.int k l)))):=Option.some.inj iP;rw[iP]at hz;exact⟨k,rfl,hz.1⟩
  ·cases he
theorem run_sliceBound(k:IntKind)(n:Int)(y:Nat)(c:BoundsCode)(h0:0<=n)(h1:n<=y):(Instr.sliceBound (.int k n) y c).run P w=.ok n.toNat w:=by
 unfold Instr.sliceBound;simp only[Sem.run_bind,asIntOf,Sem.run_pure,Result.andThen_ok];rw[if_pos ⟨h0,h1⟩];rfl
theorem Yq(len cap:Nat)(aYY:len<=cap)(lo hi mx:Option Operand)(h:iU E X w0 ρ al fr hp a w)
  {R:Type} {K:Nat->Nat->Option R} {r:R} (he:sliceK len (lo.map (evA E fr)) (hi.map (evA E fr)) (mx.map (evA E fr)) K=some r) :
  ∃l h' m,K l h'=some r/\l<=h'/\h'<=len/\h'<=m/\m<=cap/\(Instr.sliceBounds true len cap (lo.map a.eval) (hi.map a.eval) (mx.map a.eval)).run P w=.ok (l,h',m) w:=by
 unfold sliceK at he;split at he
 ·rename_i l h' hl hh hm;have bRV:mx=none:=by cases mx with
   |none=>rfl
   |some y=>cases hm
  subst bRV;split at he
  ·rename_i hc;obtain⟨c0,c1,c2⟩:=hc;refine⟨l.toNat,h'.toNat,cap,he,by omega,by omega,by omega,bVO _,?_⟩;unfold Instr.sliceBounds;rcases wR h hh with ⟨rfl,rfl⟩ |⟨yh,kh,rfl,bCB⟩
   ·rcases wR h hl with ⟨rfl,rfl⟩ |⟨yl,kl,rfl,aHF⟩
    ·rfl
    ·simp only[bXZ,bWC,Sem.run_bind,Sem.run_pure,Result.andThen_ok,aHF,Option.isSome_none];rw[run_sliceBound kl l len _ c0 (by omega)];rfl
   ·simp only[bXZ,bWC,Sem.run_bind,Sem.run_pure,Result.andThen_ok,bCB];rw[run_sliceBound kh h' cap _ (by omega) (by omega)];simp only[Result.andThen_ok];rcases wR h hl with ⟨rfl,rfl⟩ |⟨yl,kl,rfl,aHF⟩
    ·rfl
    ·simp only[bWC,aHF,Sem.run_bind];rw[run_sliceBound kl l h'.toNat _ c0 (by omega)];rfl
  ·cases he
 ·rename_i l h' mxa hl hh hm;split at he
  ·rename_i ya m bQQ bND;split at he
   ·rename_i hc;obtain⟨c0,c1,c2,c3⟩:=hc;obtain⟨ym,rfl,km,bIV⟩:∃ym,mx=some ym/\∃km,a.eval ym=.int km m:=by
     rw[<-hm]at bND;rcases wR h bND with ⟨rfl,_⟩ |⟨ym,km,rfl,bIV⟩
     ·cases hm
     ·exact⟨ym,rfl,km,bIV⟩
    obtain⟨yh,rfl,kh,bCB⟩:∃yh,hi=some yh/\∃kh,a.eval yh=.int kh h':=by
     rcases wR h hh with ⟨rfl,_⟩ |⟨yh,kh,rfl,bCB⟩
     ·cases bQQ
     ·exact⟨yh,rfl,kh,bCB⟩
    refine⟨l.toNat,h'.toNat,m.toNat,he,by omega,by omega,by omega,by omega,?_⟩;unfold Instr.sliceBounds;simp only[bWC,Sem.run_bind,bIV];rw[run_sliceBound km m cap _ (by omega) (by omega)];simp only[Result.andThen_ok,bCB];rw[run_sliceBound kh h' m.toNat _ (by omega) (by omega)];simp only[Result.andThen_ok];rcases wR h hl with ⟨rfl,rfl⟩ |⟨yl,kl,rfl,aHF⟩
    ·rfl
    ·simp only[bWC,aHF,Sem.run_bind];rw[run_sliceBound kl l h'.toNat _ c0 (by omega)];rfl
   ·cases he
  ·cases he
 ·cases he
theorem mF{t e:TypeId}{size:Nat}(hu:P.underlying t=some (.slice e))(hs:(sizeOf e).run P w=.ok size w)(A0:Option Addr)(len cap:Nat)(aYY:len<=cap)(lo hi mx:Option Operand)(h:iU E X w0 ρ al fr hp a w)
  {R:Type} {K:Nat->Nat->Option R} {r:R} (he:sliceK len (lo.map (evA E fr)) (hi.map (evA E fr)) (mx.map (evA E fr)) K=some r) :
  ∃l h' m,K l h'=some r/\l<=h'/\h'<=len/\h'<=m/\m<=cap/\(Instr.sliceAt t (.slice A0 len cap) (lo.map a.eval) (hi.map a.eval) (mx.map a.eval)).run P w=.ok (.slice (if m=l then A0 else A0.map (·.add (l*size))) (h'-l) (m-l)) w:=by
 obtain⟨l,h',m,h1,h2,h3,h4,h5,gF⟩:=Yq (P:=P) len cap aYY lo hi mx h he;refine⟨l,h',m,h1,h2,h3,h4,h5,?_⟩;unfold Instr.sliceAt;rw[Sem.run_bind,run_underlying hu,Result.andThen_ok];simp only[Instr.slice,Sem.run_bind,run_underlying hu,Result.andThen_ok,gF,hs,Sem.run_pure]
theorem aFS(h:iU E X w0 ρ al fr hp a w)(hd:iT E.nt o=true)(hT:nU P E.T){t:TypeId}{y:Operand}{lo hi mx:Option Operand}(ho:o.op=.slice t y lo hi mx)(he:pV E id o (evA E fr) hp=some (x,u)):jA P E X w0 al fr hp a w o id x u:=by
 have hy:=h.ev y;unfold pV effK at he;rw[ho]at he;simp only at he;split at he
 ·rename_i s0 b0 z0 e xA;obtain⟨d,uY,Dg⟩:=(hT t _ xA).d;have Dg:d=.slice e:=Dg;subst Dg;split at he
  ·rename_i bytes zero k Hx;have sF:=(hT e _ Hx).run_sizeOf (w:=w);have hex:∀v,(Instr.sliceAt t (a.eval y) (lo.map a.eval) (hi.map a.eval) (mx.map a.eval)).run P w=.ok v w->(execOp a.eval o).run P w=.ok (.value v) w:=by
    intro v hv;unfold execOp;rw[ho];simp only[Sem.run_bind,hv,Result.andThen_ok,Sem.run_pure]
   split at he
   ·rename_i k' ns iP;split at he
    ·rename_i hk;subst hk;rw[iP]at hy;obtain⟨⟨A0,c,hv,aYY,jO⟩,_⟩:=hy;obtain⟨l,h',m,hK,h1,h2,h3,h4,gF⟩:=mF (P:=P) uY sF A0 ns.length c aYY lo hi mx h he;obtain⟨e1,e2⟩:=Prod.mk.inj (Option.some.inj hK);rw[<-e1,<-e2];rw[<-hv]at gF;have hlen:((ns.take h').drop l).length=h'-l:=by simp;omega
     refine cA h hd (hex _ gF) ⟨_,m-l,by rw[hlen],by rw[hlen];omega,fun i n hn=>?_⟩ (by simp[refs,refsV,refsL]);rw[bWB,List.getElem?_take]at hn;split at hn
     ·rename_i hli;obtain⟨b,off,hA,hb,hx,hc⟩:=jO (l+i) n hn;refine⟨b,off+l,?_,hb,hx,by rw[<-hc];congr 2;omega⟩;rw[aW,hA];simp[lI]
     ·cases hn
    ·cases he
   ·rename_i iP;rw[iP]at hy;have hv:a.eval y=.slice none 0 0:=hy.1.1;obtain⟨l,h',m,hK,h1,h2,h3,h4,gF⟩:=mF (P:=P) uY sF none 0 0 (bVO _) lo hi mx h he;obtain⟨e1,e2⟩:=Prod.mk.inj (Option.some.inj hK);rw[<-e1,<-e2];rw[<-hv]at gF;have hlen:h'-l=([]:List Int).length:=by simp;omega
    exact cA h hd (hex _ gF) ⟨_,m-l,by rw[hlen],by simp,fun i n hn=>by simp at hn⟩ (by simp[refs,refsV,refsL])
   ·rename_i i n iP;rw[iP]at hy;obtain⟨⟨cap,hv,Bq,hc,_⟩,qW⟩:=hy;obtain⟨l,h',m,hK,h1,h2,h3,h4,gF⟩:=mF (P:=P) uY sF _ n cap Bq lo hi mx h he;obtain⟨e1,e2⟩:=Prod.mk.inj (Option.some.inj hK);rw[<-e1,<-e2];rw[<-hv]at gF;refine cA h hd (hex _ gF) ⟨if m=l then 0 else l,m-l,?_,by omega,fun qI=>?_,fun h0=>?_,fun blk k' ns hb hk=>?_⟩ qW
    ·congr 1;split <;> simp_all [lI]
    ·rw[aW]
    ·split <;> omega
    ·have:=hc blk k' ns hb hk;exact⟨by omega,by omega,by omega⟩
   ·rename_i i off n iP;rw[iP]at hy;obtain⟨⟨o',cap,hv,Bq,hA,hA0,hc⟩,qW⟩:=hy;obtain⟨l,h',m,hK,h1,h2,h3,h4,gF⟩:=mF (P:=P) uY sF _ n cap Bq lo hi mx h he;obtain⟨e1,e2⟩:=Prod.mk.inj (Option.some.inj hK);rw[<-e1,<-e2];rw[<-hv]at gF;refine cA h hd (hex _ gF) ⟨if m=l then o' else o'+l,m-l,?_,by omega,fun qI=>?_,fun h0=>?_,fun blk k' ns hb hk=>?_⟩ qW
    ·congr 1;split <;> simp_all [lI]
    ·rw[aW,hA (by omega)]
    ·have:=hA0 (by omega);split <;> omega
    ·have:=hc blk k' ns hb hk;exact⟨by omega,by omega,by omega⟩
   ·cases he
  ·rename_i te _ Hx;have sF:=(hT e _ Hx).run_sizeOf (w:=w);split at he
   ·rename_i sz n f iP;split at he
    ·rename_i bHY;subst bHY;rw[iP]at hy;obtain⟨⟨A0,cap,hv,Bq,Ec⟩,_⟩:=hy;obtain⟨l,h',m,hK,h1,h2,h3,h4,gF⟩:=mF (P:=P) uY sF A0 n cap Bq lo hi mx h he;obtain⟨e1,e2⟩:=Prod.mk.inj (Option.some.inj hK);rw[<-e1,<-e2];rw[<-hv]at gF;have hex:(execOp a.eval o).run P w=.ok (.value (.slice (if m=l then A0 else A0.map (·.add (l*te.size))) (h'-l) (m-l))) w:=by
      unfold execOp;rw[ho];simp only[Sem.run_bind,gF,Result.andThen_ok,Sem.run_pure]
     refine cA h hd hex ⟨_,m-l,rfl,by omega,fun i hi=>?_⟩ (by simp[refs,refsV,refsL]);obtain⟨r1,b,off,hA,r2⟩:=Ec (l+i) (by omega);refine⟨r1,b,off+l*te.size,?_,?_⟩
     ·rw[aW,hA];simp[lI]
     ·rw[show off+l*te.size+i*te.size=off+(l+i)*te.size by rw[bWI];omega];exact r2
    ·cases he
   ·cases he
  ·cases he
 ·cases he
theorem Dx{α:Type}{x y:α}{i:Nat}(h:[x][i]?=some y):i=0/\y=x:=by
 match i with
 |0=>simp at h;exact⟨rfl,h.symm⟩
 |i+1=>simp at h
theorem Oc(h:iU E X w0 ρ al fr hp a w)(hd:iT E.nt o=true)(hT:nU P E.T){t:TypeId}{y z:Operand}(ho:o.op=.indexAddr t y z)(he:pV E id o (evA E fr) hp=some (x,u)):jA P E X w0 al fr hp a w o id x u:=by
 have hy:=h.ev y;unfold pV effK at he;rw[ho]at he;simp only at he;split at he
 ·rename_i ti k n xA bCD;have hz:=rL h bCD;have ht:=hT t _ xA;obtain⟨d,uY,Dg⟩:=ht.d;split at he
  ·
   rename_i e Vs;rw[Vs]at Dg;have Dg:d=.slice e:=Dg;subst Dg;split at he
   ·rename_i te Hx;have sF:=(hT e _ Hx).run_sizeOf (w:=w);have hex:∀b off len cap,a.eval y=.slice (some ⟨b,off,none⟩) len cap->0<=n/\n<(len:Int)->(execOp a.eval o).run P w=.ok (.value (.pointer (some ⟨b,off+n.toNat*te.size,none⟩))) w:=by
     intro b off len cap hv hn;unfold execOp;rw[ho];simp only[hv,hz,Instr.indexAt,Sem.run_bind,asIntOf,Sem.run_pure,Result.andThen_ok,run_underlying uY];rw[if_pos hn];simp only[Sem.run_bind,sF,Result.andThen_ok,Sem.run_pure,lI]
    split at he
    ·cases he
    ·cases he
    ·rename_i xa Zh aQJ;have he:=aEY he;unfold idxK at he;split at he
     ·rename_i k' ns iP;rw[iP]at hy;obtain⟨⟨A0,c,hv,aYY,jO⟩,_⟩:=hy;split at he
      ·rename_i aWG;split at he
       ·rename_i hn;obtain⟨e1,e2⟩:=Prod.mk.inj (Option.some.inj he);rw[<-e1,<-e2];have jB:n.toNat<ns.length:=by omega
        obtain⟨b,off,hA,hb,hx,hc⟩:=jO n.toNat ns[n.toNat] (bWF jB);subst hA;refine cA h hd (hex b off ns.length c hv hn) ⟨b,off+n.toNat*te.size,rfl,fun i s hs=>?_⟩ (by simp[refs,refsV,refsL]);obtain⟨rfl,rfl⟩:=Dx hs;refine⟨hb,hx,_,by rw[aWG,bVY,bWM];exact hc,?_,rfl⟩;simp[bXI,jB]
       ·cases he
      ·cases he
     ·rename_i i m iP;rw[iP]at hy;obtain⟨⟨cap,hv,Bq,hc,_⟩,qW⟩:=hy;split at he
      ·rename_i e' k' ns hb;split at he
       ·rename_i aWG;split at he
        ·rename_i hn;obtain⟨e1,e2⟩:=Prod.mk.inj (Option.some.inj he);rw[<-e1,<-e2];refine cA h hd (hex _ _ m cap hv hn) ⟨by rw[aWG,bVQ,bVY],fun blk k1 Xq tY Hz=>?_⟩ qW;have:=(hc blk k1 Xq tY Hz).1;omega
        ·cases he
       ·cases he
      ·rename_i e' cs hb;split at he
       ·rename_i hn;obtain⟨e1,e2⟩:=Prod.mk.inj (Option.some.inj he);rw[<-e1,<-e2];refine cA h hd (hex _ _ m cap hv hn) ?_ qW;show _=_;rw[bVQ]
       ·cases he
      ·cases he
     ·rename_i i off m iP;rw[iP]at hy;obtain⟨hy,qW⟩:=hy;obtain⟨A0,cap,hv,Bq,hA,hc⟩:=wB hy;split at he
      ·rename_i e' k' ns hb;split at he
       ·rename_i aWG;split at he
        ·rename_i hn;obtain⟨e1,e2⟩:=Prod.mk.inj (Option.some.inj he);rw[<-e1,<-e2];have hA:=hA (by omega);subst hA;refine cA h hd (hex _ _ m cap hv hn) ⟨by rw[aWG,bVY],fun blk k1 Xq tY Hz=>?_⟩ qW;have:=hc blk k1 Xq tY Hz;omega
        ·cases he
       ·cases he
      ·cases he
     ·rename_i sz m f iP;rw[iP]at hy;obtain⟨⟨A0,c,hv,aYY,jO⟩,_⟩:=hy;split at he
      ·rename_i aWG;split at he
       ·rename_i hn;obtain⟨e1,e2⟩:=Prod.mk.inj (Option.some.inj he);rw[<-e1,<-e2];obtain⟨aZD,b,off,hA,hc⟩:=jO n.toNat (by omega);subst hA;exact cA h hd (hex b off m c hv hn) ⟨b,off+n.toNat*te.size,rfl,by rw[<-aWG];exact hc⟩ (by simp[refs,refsV,refsL])
       ·cases he
      ·cases he
     ·exact absurd ‹_› (Zh _ _)
     ·exact absurd ‹_› (aQJ _ _)
     ·cases he
   ·cases he
  ·
   rename_i len pQ g Vs;rw[Vs]at Dg;obtain⟨e,ei,ed,rfl,aDC,aQO,bNO,bNN⟩:=Dg;have sF:(sizeOf e).run P w=.ok pQ w:=by simp[sizeOf,typeInfo,aDC,aQO]
   have hex:∀b off,a.eval y=.pointer (some ⟨b,off,none⟩)->0<=n/\n<(len:Int)->(execOp a.eval o).run P w=.ok (.value (.pointer (some ⟨b,off+n.toNat*pQ,none⟩))) w:=by
    intro b off hv hn;unfold execOp;rw[ho];simp only[hv,hz,Instr.indexAt,Sem.run_bind,asIntOf,Sem.run_pure,Result.andThen_ok,run_underlying uY,Instr.sureAddr];rw[if_pos hn];simp only[Sem.run_bind,sF,Result.andThen_ok,Sem.run_pure,lI]
   split at he
   ·rename_i i off iP;rw[iP]at hy;simp only[idxK,Vs]at he;cases hb:bVR len 8 with
    |true =>
     rw[hb,cond_true]at he;obtain⟨j,_,hj,hn,he⟩:=zB he;obtain⟨e1,e2⟩:=Prod.mk.inj (Option.some.inj he);rw[<-e1,<-e2];have hx:=hex _ _ hy.1 (by omega);rw[hn,Int.toNat_natCast]at hx;exact cA h hd hx rfl hy.2
    |false =>
    rw[hb,cond_false]at he;split at he
    ·rename_i hn;obtain⟨e1,e2⟩:=Prod.mk.inj (Option.some.inj he);rw[<-e1,<-e2];exact cA h hd (hex _ _ hy.1 hn) rfl hy.2
    ·cases he
   ·rename_i k' ns iP;rw[iP]at hy;obtain⟨⟨b,off,hv,hc⟩,_⟩:=hy;simp only[idxK,Vs]at he;split at he
    ·rename_i hl;split at he
     ·rename_i hn;obtain⟨e1,e2⟩:=Prod.mk.inj (Option.some.inj he);rw[<-e1,<-e2];have jB:n.toNat<ns.length:=by omega
      refine cA h hd (hex _ _ hv hn) ⟨b,off+n.toNat*pQ,rfl,fun i s hs=>?_⟩ (by simp[refs,refsV,refsL]);obtain⟨rfl,rfl⟩:=Dx hs;have:=hc n.toNat (.sc (.int k' (ns.getD n.toNat 0))) (by simp[wJ,bXI,jB]);rw[hl.2,bVY,bWM];exact this
     ·cases he
    ·cases he
   ·cases he
  ·cases he
 ·cases he
theorem foldMM_sound(op:BinOp)(bt:Value->Value->Sem Value)(bCT:∀k n m,∀w,(bt (.int k n) (.int k m)).run P w=.ok (.int k (match op with | .gtr=>if m>n then m else n |_=>if m<n then m else n)) w)(h:iU E X w0 ρ al fr hp a w)(k:IntKind):∀(ys:List Operand) (n r:Int),
  foldMM op k n (ys.map (evA E fr))=some r->((ys.map a.eval).foldlM bt (.int k n)).run P w=.ok (.int k r) w
 | [],n,r,he=>by cases he;rfl
 |y :: ys,n,r,he=>by
  simp only[bVN]at he ⊢;unfold foldMM at he;split at he
  ·cases ‹_ :: _=[]›
  ·rename_i n0 k' m rest iP;obtain⟨iP,yL⟩:=List.cons.inj iP;split at he
   ·rename_i hk;subst hk;have hy:=(h.ev y).1;rw[iP]at hy;have hy:a.eval y=.int k m:=hy.1;rw[<-yL]at he;have ih:=foldMM_sound op bt bCT h k ys _ r he;simp only[List.foldlM_cons,Sem.run_bind,hy,bCT,Result.andThen_ok];exact ih
   ·cases he
  ·cases he
theorem Zd(h:iU E X w0 ρ al fr hp a w){y:Operand}{n:Nat}(he:lenA (evA E fr y)=some n):∃A0 cap,a.eval y=.slice A0 n cap:=by
 have hy:=(h.ev y).1;unfold lenA at he;split at he
 ·rename_i k ns iP;cases he;rw[iP]at hy;obtain⟨A0,c,hv,_⟩:=hy;exact⟨A0,c,hv⟩
 ·rename_i iP;cases he;rw[iP]at hy;exact⟨none,0,hy.1⟩
 ·rename_i i n' iP;cases he;rw[iP]at hy;obtain⟨cap,hv,_⟩:=hy;exact⟨_,cap,hv⟩
 ·rename_i i off n' iP;cases he;rw[iP]at hy;obtain⟨A0,cap,hv,_⟩:=wB hy;exact⟨A0,cap,hv⟩
 ·rename_i sz n' f iP;cases he;rw[iP]at hy;obtain⟨A0,cap,hv,_⟩:=hy;exact⟨A0,cap,hv⟩
 ·cases he
theorem tW(h:iU E X w0 ρ al fr hp a w){k:IntKind}{y:Operand}{ns:List Int}(he:intsOf hp k (evA E fr y)=some ns) :
  ∃A0 cap,a.eval y=.slice A0 ns.length cap/\∀(i:Nat) (n:Int),ns[i]?=some n->∃ad,A0=some ad/\w.cell? (ad.add i)=some (.int k n):=by
 have hy:=(h.ev y).1;unfold intsOf at he;split at he
 ·rename_i k' mZ iP;split at he <;> cases he;rename_i hk;subst hk;rw[iP]at hy;obtain⟨A0,c,hv,hle,hc⟩:=hy;refine⟨A0,c,hv,fun i n hn=>?_⟩;obtain⟨b,off,hA,_,_,Pn⟩:=hc i n hn;exact⟨_,hA,by rw[lI];exact Pn⟩
 ·rename_i iP;cases he;rw[iP]at hy;exact⟨none,0,hy.1,fun i n hn=>by simp at hn⟩
 ·rename_i i m iP;split at he
  ·rename_i e k' mZ hb;split at he <;> cases he;rename_i hk;subst hk;rw[iP]at hy;obtain⟨cap,hv,hle,hc,_⟩:=hy;obtain⟨hm,_⟩:=hc _ k ns hb rfl;subst hm;refine⟨_,cap,hv,fun j n hn=>⟨_,rfl,?_⟩⟩;rw[lI,bVQ];exact h.xT hb hn
  ·cases he
 ·rename_i i off m iP;split at he
  ·rename_i e k' mZ hb;split at he <;> cases he;rename_i hk;subst hk;rw[iP]at hy;obtain⟨A0,cap,hv,hle,hA,hc⟩:=wB hy;have hl:=hc _ k mZ hb rfl;have hlen:((mZ.drop off).take m).length=m:=by simp;omega
   refine⟨A0,cap,by rw[hlen];exact hv,fun j n hn=>?_⟩;have hj:j<m:=by have:=aT hn;omega
   refine⟨_,hA (by omega),?_⟩;rw[lI];rw[bVT hj,bWB]at hn;exact h.xT hb hn
  ·cases he
 ·cases he
theorem kS{b:Builtin}{args:Array Operand}{wY:Array TypeId}(ho:o.op=.call ⟨.builtin b,args,wY⟩){f:Array TypeId->TypeId->Array Value->Sem Value}(hf:∀consts vs,builtin b wY o.type consts vs=(do pure (.value (<-f wY o.type vs)):Sem Next)){v:Value}{w':World}(hr:(f wY o.type (args.map a.eval)).run P w=.ok v w') :
  (execOp a.eval o).run P w=.ok (.value v) w':=by
 unfold execOp;rw[ho];simp only[resolve,Sem.run_bind,Sem.run_pure,Result.andThen_ok,invoke,hf,hr]
theorem aJZ(k:IntKind)(n m:Int)(w:World):(Builtin.max2 (.int k n) (.int k m)).run P w=.ok (.int k (if m>n then m else n)) w:=(rfl:_=Result.ok (Value.int k (@ite Int (m>n) (Int.decLt n m) m n)) w).trans (by congr)
theorem aJY(k:IntKind)(n m:Int)(w:World):(Builtin.min2 (.int k n) (.int k m)).run P w=.ok (.int k (if m<n then m else n)) w:=(rfl:_=Result.ok (Value.int k (@ite Int (m<n) (Int.decLt m n) m n)) w).trans (by congr)
theorem aRI(h:iU E X w0 ρ al fr hp a w)(hd:iT E.nt o=true)(hT:nU P E.T){args:Array Operand}{wY:Array TypeId}(ho:o.op=.call ⟨.builtin .len,args,wY⟩)(he:pV E id o (evA E fr) hp=some (x,u)):jA P E X w0 al fr hp a w o id x u:=by
 obtain⟨args⟩:=args;obtain⟨wY⟩:=wY;unfold pV effK at he;rw[ho]at he;simp only[builtinK]at he
 match args,wY,he with
 | [y],[t],he =>
  simp only[bVN,bWH]at he;split at he
  ·rename_i s0 b0 z0 e n xA hlen;cases he;obtain⟨d,uY,Dg⟩:=(hT t _ xA).d;have Dg:d=.slice e:=Dg;subst Dg;obtain⟨A0,cap,hv⟩:=Zd h hlen;refine cA h hd (v:=.int .i64 n) (kS ho (f:=Builtin.len_) (fun _ _=>rfl) ?_) ⟨rfl,rfl⟩ (by simp[mG]);simp[Builtin.len_,run_underlying uY,hv,goInt]
  ·rename_i s0 b0 z0 n pQ g xA;cases he;obtain⟨d,uY,e,ei,ed,rfl,_⟩:=(hT t _ xA).d;refine cA h hd (v:=.int .i64 n) (kS ho (f:=Builtin.len_) (fun _ _=>rfl) ?_) ⟨rfl,rfl⟩ (by simp[mG]);simp[Builtin.len_,run_underlying uY,goInt]
  ·cases he
 | [],_,he=>simp at he
 |_ :: _ :: _,_,he=>simp at he
 | [_],[],he=>simp at he
 | [_],_ :: _ :: _,he=>simp at he
theorem Lw(h:iU E X w0 ρ al fr hp a w)(hd:iT E.nt o=true){b:Builtin}(hb:b=.max\/b=.min){args:Array Operand}{wY:Array TypeId}(ho:o.op=.call ⟨.builtin b,args,wY⟩)(he:pV E id o (evA E fr) hp=some (x,u)):jA P E X w0 al fr hp a w o id x u:=by
 obtain⟨args⟩:=args;unfold pV effK at he;rw[ho]at he;simp only at he
 match args,he with
 | [],he=>rcases hb with rfl |rfl <;> simp[builtinK]at he
 |y :: ys,he =>
  simp only[bVN]at he;have hy:=(h.ev y).1;rcases hb with rfl |rfl
  ·unfold builtinK at he;split at he <;> first | (cases he;done) | (simp_all;done) |skip
   rename_i b k n rest tY iP;obtain⟨iP,yL⟩:=List.cons.inj iP;rw[iP]at hy;have hy:a.eval y=.int k n:=hy.1;split at he <;> cases he;rename_i m hm;rw[<-yL]at hm;have hr:=foldMM_sound (P:=P) .gtr Builtin.max2 (fun k n m w=>aJZ k n m w) h k ys n m hm;refine cA h hd (v:=.int k m) (kS ho (f:=Builtin.max_) (fun _ _=>rfl) ?_) ⟨rfl,rfl⟩ (by simp[mG]);unfold Builtin.max_;simp only[bWJ,bVN,hy];exact hr
  ·unfold builtinK at he;split at he <;> first | (cases he;done) | (simp_all;done) |skip
   rename_i b k n rest tY iP;obtain⟨iP,yL⟩:=List.cons.inj iP;rw[iP]at hy;have hy:a.eval y=.int k n:=hy.1;split at he <;> cases he;rename_i m hm;rw[<-yL]at hm;have hr:=foldMM_sound (P:=P) .lss Builtin.min2 (fun k n m w=>aJY k n m w) h k ys n m hm;refine cA h hd (v:=.int k m) (kS ho (f:=Builtin.min_) (fun _ _=>rfl) ?_) ⟨rfl,rfl⟩ (by simp[mG]);unfold Builtin.min_;simp only[bWJ,bVN,hy];exact hr
end
end AI
namespace AI
open Go Go.RowKit
section
variable {P:Program} {E:Env} {X:Nat->Prop} {w0:Old} {ρ:Nat->Nat} {al:Nat->Prop} {fr:Nat->A} {hp:Nat->Option jT} {a:Act} {w:World} {o:Oper} {id:Nat} {x:A} {u:pS}
def fW(k:IntKind)(ns:List Int):List Value:=ns.map fun n=>.int k n
theorem Hk(k:IntKind)(ns:List Int):∀v∈fW k ns,v.oneCell'=true:=by
 intro v hv;obtain⟨n,_,rfl⟩:=List.mem_map.1 hv;rfl
theorem wP{w w':World}{row:Option Nat}(hg:w.grownBy w' row){k:Nat}(hk:k<w.heap.size)(yT:row≠some k):w'.heap[k]?=w.heap[k]?:=hg.block k hk (fun e=>yT e.symm)
theorem iU.appended(h:iU E X w0 ρ al fr hp a w){i:Nat}{e:TypeId}{c c2:wX}(hb:hp i=some ⟨e,c⟩)(Br:E.n0<=i)(vI:¬al id){g:Nat}{nN:Array Value}{w':World}(hg:w.grownBy w' (some (ρ i)))
  (hw:w'.heap[g]?=some (.cells nN e (0,0))) (Ca:g=ρ i\/w.heap.size<=g) (hc:∀X',iA (XO X ρ hp) w X' w'->yD X' w' c2 nN) :
  iU E X w0 (Ay ρ id g) (nS al id) fr (applyUps [(i,none),(id,some ⟨e,c2⟩)] hp) a w':=by
 have hi:=h.alh i _ hb;have yT:i≠id:=fun e=>vI (e▸hi)
 obtain⟨Lo,arr,aFI,_⟩:=h.blk i _ hb;have Vt:∀j,applyUps [(i,none),(id,some ⟨e,c2⟩)] hp j=if j=id then some ⟨e,c2⟩else if j=i then none else hp j:=by
  intro j;simp only[applyUps]
  by_cases h1:j=id
  ·subst h1;rw[bJ,if_pos rfl]
  ·rw[fM _ _ h1,if_neg h1]
   by_cases h2:j=i
   ·subst h2;rw[bJ,if_pos rfl]
   ·rw[fM _ _ h2,if_neg h2]
 have hold:∀j b,applyUps [(i,none),(id,some ⟨e,c2⟩)] hp j=some b->j≠id->j≠i/\hp j=some b:=by
  intro j b hj yT;rw[Vt,if_neg yT]at hj;split at hj
  ·cases hj
  ·exact⟨‹_›,hj⟩
 have aQH:∀j b,hp j=some b->j≠i->ρ j≠ρ i:=fun j b hj yT e=>yT (h.inj j i b _ hj hb e)
 have bJT:Kept w0 w w':=⟨hg.os,hg.tape,hg.output,hg.size,fun k hk=>wP hg (by have:=h.below.size;have:=Old.Va hk;omega) (fun e=>by cases e;exact hk Lo.Hw),fun k hk=>wT (wP hg (by have:=h.below.size;have:=w0.bAI k hk;omega) (fun e=>by cases e;have:=Lo.new Br;have:=w0.bAI _ hk;omega))⟩;have hl:iA (XO X ρ hp) w (XO X (Ay ρ id g) (applyUps [(i,none),(id,some ⟨e,c2⟩)] hp)) w':=by
  refine⟨hg.size,fun b bTI hx=>⟨wP hg bTI (fun e=>hx (.inr ⟨i,_,hb,by cases e;rfl⟩)),fun ho=>?_⟩⟩;rcases ho with ho |⟨j,bl,h1,h2⟩
  ·exact hx (.inl ho)
  ·by_cases hj:j=id
   ·subst hj;rw[bJ]at h2;rcases Ca with Ca |Ca
    ·exact hx (.inr ⟨i,_,hb,by omega⟩)
    ·omega
   ·rw[fM _ _ hj]at h2;exact hx (.inr ⟨j,bl,(hold j bl h1 hj).2,h2⟩)
 refine h.change hl bJT ?_ ?_ ?_ (fun _ h=>.inl h) ?_
 ·intro j hj;have Zl:j≠id:=fun e=>vI (e▸hj)
  refine⟨fM _ _ Zl,fun b' uZ=>?_⟩;obtain⟨h1,h2⟩:=hold j b' uZ Zl;refine⟨b',h2,sameShape.refl _,?_⟩;unfold lA;rw[wP hg (h.iV h2) (fun e=>aQH j b' h2 h1 (Option.some.inj e).symm)]
 ·intro j b hj
  by_cases Zl:j=id
  ·subst Zl;rw[Vt,if_pos rfl]at hj;cases hj;rw[bJ];exact⟨.inl (Ca.elim (fun e=>e▸Lo.new Br) (fun e=>bWK h.below.size e)),nN,hw,hc _ hl⟩
  ·obtain⟨h1,h2⟩:=hold j b hj Zl;rw[fM _ _ Zl];exact⟨(h.blk j b h2).1,(h.blk j b h2).2.later hl (wP hg (h.iV h2) (fun e=>aQH j b h2 h1 (Option.some.inj e).symm))⟩
 ·intro j j' b b' h1 h2 e
  by_cases hj:j=id
  ·by_cases aWA:j'=id
   ·rw[hj,aWA]
   ·subst hj;obtain⟨h3,h4⟩:=hold j' b' h2 aWA;rw[bJ,fM _ _ aWA]at e;rcases Ca with Ca |Ca
    ·exact absurd (e.symm.trans Ca) (aQH j' b' h4 h3)
    ·have:=h.iV h4;omega
  ·obtain⟨h5,h6⟩:=hold j b h1 hj
   by_cases aWA:j'=id
   ·subst aWA;rw[bJ,fM _ _ hj]at e;rcases Ca with Ca |Ca
    ·exact absurd (e.trans Ca) (aQH j b h6 h5)
    ·have:=h.iV h6;omega
   ·obtain⟨h3,h4⟩:=hold j' b' h2 aWA;rw[fM _ _ hj,fM _ _ aWA]at e;exact h.inj j j' b b' h6 h4 e
 ·intro j b hj
  by_cases Zl:j=id
  ·subst Zl;exact qE j
  ·exact .inl (h.alh j b (hold j b hj Zl).2)
theorem Oh{arr:Array Value}{k:IntKind}{ns:List Int}(h:arr.toList.take ns.length=fW k ns):∀(j:Nat) (n:Int),ns[j]?=some n->arr[j]?=some (Value.int k n):=by
 intro j n hn;have hj:=aT hn;have:(fW k ns)[j]?=some (.int k n):=by simp[fW,hn]
 rw[<-h,bVT hj]at this;simpa using this
theorem Nt{arr:Array Value}{k:IntKind}{ns:List Int}(h:∀(j:Nat) (n:Int),ns[j]?=some n->arr[j]?=some (Value.int k n)):arr.toList.take ns.length=fW k ns:=by
 apply List.ext_getElem?;intro j
 by_cases hj:j<ns.length
 ·rw[bVT hj];have:=h j ns[j] (bWF hj);simp only[fW,bVS,bWF hj,bWC];simpa using this
 ·rw[bXK (by simp;omega),bXK (by simp[fW];omega)]
theorem oS(z:Array Value)(n:Nat):(Builtin.zeroCells z n).size=n*z.size:=by simp[Builtin.zeroCells]
theorem La(k:IntKind)(ns ms:List Int):fW k ns ++ fW k ms=fW k (ns ++ ms):=by simp[fW]
theorem yI{t e:TypeId}{ie:TypeInfo}{zv:Value}(ty:TypeId)(uY:P.underlying t=some (.slice e))(hi:P.info? e=some ie)(aKJ:ie.zero=some zv)(aCU:zv.cells.size=ie.size)
  {g cap n m:Nat} {arr:Array Value} {news:List Value} (aFI:w.heap[g]?=some (.cells arr e (0,0))) (Bq:n<=cap) (bFK:cap<=maxLen) (bNS:cap*ie.size<=arr.size)
  (ad:Addr) (c0:Nat) (hl:news.length=m*ie.size) (Vp:∀(j:Nat) u,news[j]?=some u->w.cell? (ad.add j)=some u) (Le:∀v∈news,v.oneCell'=true) (wL:n+m<=maxLen) (Lm:(n+m)*ie.bytes<=140737488355328) :
  ∃g' Mf nN w',(Builtin.append_ #[t,t] ty #[.slice (some ⟨g,0,none⟩) n cap,.slice (some ad) m c0]).run P w=.ok (.slice (some ⟨g',0,none⟩) (n+m) Mf) w' /\
   w.grownBy w' (some g)/\w'.heap[g']?=some (.cells nN e (0,0))/\(g'=g\/w.heap.size<=g')/\Mf*ie.size<=nN.size/\n+m<=Mf/\Mf<=maxLen/\nN.toList.take ((n+m)*ie.size)=arr.toList.take (n*ie.size) ++ news:=by
 have h1:n*ie.size<=cap*ie.size:=bXD _ Bq;have h2:(arr.toList.take (n*ie.size)).length=n*ie.size:=by simp;omega
 have h3:(arr.toList.take (n*ie.size) ++ news).length=(n+m)*ie.size:=by rw[bWS,h2,hl,bWI]
 by_cases hr:n+m<=cap
 ·have h4:(n+m)*ie.size<=cap*ie.size:=bXD _ hr;have h5:n*ie.size+news.length=(n+m)*ie.size:=by rw[hl,bWI]
  have gF:=run_append_room (P:=P) w t ty e ie uY hi g n cap arr aFI ad m c0 _ hl Vp Le hr (by omega);refine⟨g,cap,_,_,gF,⟨rfl,rfl,rfl,by simp,fun k _ hk=>setRow_other w g k _ (fun e=>hk (by rw[e]))⟩,setRow_heap w g arr _ e _ aFI,.inl rfl,?_,hr,bFK,?_⟩
  ·simp only[bXE,bWS,List.length_drop,h2,h5,Array.length_toList];omega
  ·rw[<-h3];exact bXF
 ·have gF:=run_append_grow (P:=P) w t ty e ie zv uY hi aKJ ⟨g,0,none⟩ n cap _ h2 (fun j v hj=>by
   have aFH:=aT hj;rw[bVT (by omega)]at hj;rw[lI,bVQ,cell_of_row w g j arr e (0,0) aFI];simpa using hj) ad m c0 _ hl Vp (by omega) (by unfold maxLen at wL;omega) (growslice_fits (by omega) Lm)
  have Ca:=grownCap_ge w (n+m) cap e;have Rz:grownCap w (n+m) cap e<=maxLen:=grownCap_le_maxLen w _ _ e wL;refine⟨w.heap.size,_,_,_,gF,⟨rfl,rfl,rfl,by simp,fun k hk _=>wM w.drew _ hk⟩,heap_alloc_new w.drew _,.inr (bVO _),?_,Ca,Rz,?_⟩
  ·simp only[Array.size_append,bXE,oS,aCU,h2,hl];rw[<-bWI,<-bWI];exact bXD _ (by omega)
  ·simp only[Array.toList_append];rw[<-h3];exact bXF
theorem iU.drew(h:iU E X w0 ρ al fr hp a w):iU E X w0 ρ al fr hp a w.drew :=
 h.change ⟨bVO _,fun _ _ hx=>⟨rfl,hx⟩⟩ ⟨rfl,rfl,rfl,bVO _,fun _ _=>rfl,fun _ _=>rfl⟩
  (fun _ _=>⟨rfl,fun b' uZ=>⟨b',uZ,sameShape.refl _,rfl⟩⟩) (fun id b hb=>⟨(h.blk id b hb).1,(h.blk id b hb).2.later ⟨bVO _,fun _ _ hx=>⟨rfl,hx⟩⟩ rfl⟩) h.inj (fun _ h=>h) h.alh
theorem yD.front{Y:Nat->Prop}{cs:List S}{arr:Array Value}(h:yD Y w (.cells cs) arr):iK Y w cs (arr.toList.take cs.length) :=
 ⟨by have:=h.1;simp;omega,fun i s u hs hu=>by
  obtain⟨u',Vm,hr⟩:=h.2 i s hs;rw[bVT (aT hs)]at hu;have:u=u':=by simp at hu;rw[hu]at Vm;exact Option.some.inj Vm
  exact this▸hr⟩
theorem yD.Vb{Y:Nat->Prop}{cs:List S}{arr:Array Value}(h:iK Y w cs (arr.toList.take cs.length)):yD Y w (.cells cs) arr :=
 ⟨by have:=h.1;simp at this;omega,fun i s hs=>by
  have jB:=aT hs;obtain⟨u,hu⟩:=bB (l:=arr.toList.take cs.length) (i:=i) (by rw[<-h.1];exact jB);refine⟨u,?_,h.2 i s u hs hu⟩;rw[bVT jB]at hu;simpa using hu⟩
theorem iK.append{Y:Nat->Prop}{cs ds:List S}{vs us:List Value}(h:iK Y w cs vs)(h':iK Y w ds us):iK Y w (cs ++ ds) (vs ++ us) :=
 ⟨by simp[h.1,h'.1],fun i s u hs hu=>by
  by_cases hi:i<cs.length
  ·rw[bWU hi]at hs;rw[bWU (by rw[<-h.1];exact hi)]at hu;exact h.2 i s u hs hu
  ·rw[bWV (by omega)]at hs;rw[bWV (by rw[<-h.1];omega),<-h.1]at hu;exact h'.2 _ s u hs hu⟩
theorem Sm(h:iU E X w0 ρ al fr hp a w)(hd:iT E.nt o=true)(vI:∀j,j<8->¬al (id+j)){t e:TypeId}{te:TI}(uY:P.underlying t=some (.slice e))(Hx:Af P e te){y z:Operand}(ho:o.op=.call ⟨.builtin .append,#[y,z],#[t,t]⟩)
  (he:appCells E.n0 id e te (evA E fr y) (evA E fr z) hp (fun a u=>some (a,u))=some (x,u)):jA P E X w0 al fr hp a w o id x u:=by
 obtain⟨ie,hi,sF,aTQ,zv,aKJ,Nx⟩:=Hx.i;have aCU:zv.cells.size=ie.size:=by
  have h1:=Hx.zl;rw[<-Nx]at h1;rw[sF,<-h1];simp
 have sT:∀n,∀i∈refs (.v (.one (.buf id n))),nS al id i:=by
  intro n i hi;simp only[refs,refsV,refsL,bWG]at hi;subst hi;exact qE i
 have hy:=(h.ev y).1;have hz:=(h.ev z).1;unfold appCells at he;split at he
 ·rename_i j m bJD;rw[bJD]at hz;obtain⟨bDX,bHS,_,_,_⟩:=hz;split at he
  ·rename_i ej new bTJ;obtain⟨_,Sz,bSS,bJQ⟩:=h.blk j _ bTJ;split at he
   ·rename_i hm;obtain⟨aFG,bBV⟩:=hm;have aWE:=bJQ.front;have bIS:(Sz.toList.take new.length).length=m*ie.size:=by rw[<-aWE.1,bBV,sF]
    have Vp:∀(k:Nat) v,(Sz.toList.take new.length)[k]?=some v->w.cell? ((⟨ρ j,0,none⟩:Addr).add k)=some v:=by
     intro k v hk;have aOF:=aT hk;rw[bVT (by rw[<-aWE.1]at aOF;exact aOF)]at hk;rw[lI,bVQ,cell_of_row w (ρ j) k Sz _ (0,0) bSS];simpa using hk
    have Le:∀v∈Sz.toList.take new.length,v.oneCell'=true:=by
     intro v hv;obtain⟨k,hk⟩:=bWO hv;obtain⟨s,hs⟩:=bB (l:=new) (i:=k) (by rw[aWE.1];exact aT hk);exact(aWE.2 k s v hs hk).one
    split at he
    ·
     rename_i i n aWF;rw[aWF]at hy;obtain⟨cap,hv,Bq,_,aQR⟩:=hy;split at he
     ·rename_i e' cs bJS;split at he
      ·rename_i hk;obtain⟨rfl,Br,hn,aHJ,tY,aDG⟩:=hk;obtain⟨e1,e2⟩:=Prod.mk.inj (Option.some.inj he);rw[<-e1,<-e2];obtain⟨sz,h5,h6,h7⟩:=aQR _ cs bJS rfl;have bRG:sz=ie.size:=by rw[sF];exact Nat.eq_of_mul_eq_mul_left hn (by rw[<-h5,aHJ])
       subst bRG;obtain⟨_,arr,aFI,bTG⟩:=h.blk i _ bJS;rw[kQ aFI]at h6;have bFH:=bTG.front;obtain⟨g',Mf,nN,w',gF,hg,bCJ,aWD,rP,aFE,Rz,bEY⟩:=yI (P:=P) o.type uY hi aKJ aCU aFI Bq h7 h6 ⟨ρ j,0,none⟩ bDX bIS Vp Le (by unfold maxLen;omega) (by rw[aTQ];omega);have hlen:(cs ++ new).length=(n+m)*ie.size:=by rw[bWS,aHJ,bBV,sF,bWI]
       have h1:=h.appended (id:=id) (c2:=.cells (cs ++ new)) bJS Br (vI 0 (by omega)) hg bCJ aWD (fun X' hl=>yD.Vb (by
        rw[hlen,bEY];refine iK.append (iK.later hl ?_) (iK.later hl aWE);rw[h5]at bFH;exact bFH))
       refine⟨_,.slice (some ⟨g',0,none⟩) (n+m) Mf,w',.inl (kS ho (f:=Builtin.append_) (fun _ _=>rfl) ?_),h1.pure hd (x:=.v (.one (.buf id (n+m)))) ?_ (sT _)⟩
       ·simp only[bWJ,bVN,bWH,hv,bHS];exact gF
       ·refine⟨Mf,by rw[bJ],aFE,fun blk k1 Xq Bs Hz=>?_,fun blk bVC Bs Hz=>?_⟩
        ·simp only[applyUps]at Bs;rw[bJ]at Bs;cases Bs;cases Hz
        ·simp only[applyUps]at Bs;rw[bJ]at Bs;cases Bs;cases Hz;exact⟨ie.size,hlen,by rw[bJ,kQ bCJ];exact rP,Rz⟩
      ·cases he
     ·cases he
    ·
     rename_i aWF;rw[aWF]at hy;have hv:a.eval y=.slice none 0 0:=hy.1;split at he
     ·rename_i hk;obtain⟨tY,aDG⟩:=hk;obtain⟨e1,e2⟩:=Prod.mk.inj (Option.some.inj he);rw[<-e1,<-e2];have gF:=run_append_nil (P:=P) w t o.type e ie zv uY hi aKJ ⟨ρ j,0,none⟩ m bDX _ bIS Vp aFG (by omega) (by rw[aTQ];omega);have Ca:=grownCap_ge w m 0 e;have Rz:grownCap w m 0 e<=maxLen:=grownCap_le_maxLen w _ _ e (by unfold maxLen;omega);have bBF:((Sz.toList.take new.length).toArray ++ Builtin.zeroCells zv.cells (grownCap w m 0 e-m)).size=grownCap w m 0 e*ie.size:=by
       simp only[Array.size_append,bXE,oS,aCU,bIS];rw[<-bWI];congr 1;omega
      have h1:=h.drew.alloc (id:=id) (al':=nS al id) (vI 0 (by omega)) (fun _ h=>.inl h) (qE id) e (.cells new) ((Sz.toList.take new.length).toArray ++ Builtin.zeroCells zv.cells (grownCap w m 0 e-m)) (by
       refine yD.Vb ?_;have e3:((Sz.toList.take new.length).toArray ++ Builtin.zeroCells zv.cells (grownCap w m 0 e-m)).toList.take new.length=Sz.toList.take new.length:=by
        have hq:=aWE.1;generalize Sz.toList.take new.length=L at hq ⊢;rw[Array.toList_append,hq];exact bXF
       rw[e3];exact iK.later ⟨bVO _,fun _ _ hx=>⟨rfl,hx⟩⟩ aWE)
      refine⟨_,.slice (some ⟨w.heap.size,0,none⟩) m (grownCap w m 0 e),_,.inl (kS ho (f:=Builtin.append_) (fun _ _=>rfl) ?_),h1.pure hd (x:=.v (.one (.buf id m))) ?_ (sT _)⟩
      ·simp only[bWJ,bVN,bWH,hv,bHS];exact gF
      ·refine⟨_,by rw[bJ];rfl,Ca,fun blk k1 Xq Bs Hz=>?_,fun blk bVC Bs Hz=>?_⟩
       ·rw[bJ]at Bs;cases Bs;cases Hz
       ·rw[bJ]at Bs;cases Bs;cases Hz;refine⟨ie.size,by rw[bBV,sF],?_,Rz⟩;rw[bJ,kQ (wO w.drew _),bBF];exact bVO _
     ·cases he
    ·cases he
   ·cases he
  ·cases he
 ·cases he
theorem Zw(h:iU E X w0 ρ al fr hp a w)(hd:iT E.nt o=true)(hT:nU P E.T)(vI:∀j,j<8->¬al (id+j)){args:Array Operand}{wY:Array TypeId}(ho:o.op=.call ⟨.builtin .append,args,wY⟩)(he:pV E id o (evA E fr) hp=some (x,u)):jA P E X w0 al fr hp a w o id x u:=by
 obtain⟨args⟩:=args;obtain⟨wY⟩:=wY;unfold pV effK at he;rw[ho]at he;simp only[builtinK]at he
 match args,wY,he with
 | [y,z],[t,t'],he =>
  simp only[bVN,bWH]at he;split at he
  ·rename_i bRF;subst bRF;split at he
   ·rename_i s0 b0 z0 e xA;obtain⟨d,uY,Dg⟩:=(hT t _ xA).d;have Dg:d=.slice e:=Dg;subst Dg;split at he
    ·rename_i bytes zero k Hx;have Lc:=hT e _ Hx;obtain⟨ie,hi,sF,aTQ,zv,aKJ,Nx⟩:=Lc.i;have sF:ie.size=1:=sF;have aTQ:ie.bytes=bytes:=aTQ;have aCU:zv.cells.size=1:=by
      have h1:zero.length=1:=Lc.zl;have h2:zv.cells.toList=zero:=Nx;rw[<-h2]at h1;simpa using h1
     have sT:∀i∈refs (.v (.one (.buf id 0))),nS al id i:=by
      intro i hi;simp only[refs,refsV,refsL,bWG]at hi;subst hi;exact qE i
     split at he
     ·rename_i hb8;have hy:=(h.ev y).1;split at he
      ·
       rename_i i n ms iP aQK;rw[iP]at hy;obtain⟨cap,hv,Bq,hc,_⟩:=hy;split at he
       ·rename_i e' k' ns hb;cases Gg:bWA i E.n0 with
        |true=>rw[Gg]at he;cases he
        |false =>
        rw[Gg]at he;simp only[cond_false]at he;have Gg:E.n0<=i:=by
         have:¬i<E.n0:=fun h=>by
          have h2:bWA i E.n0=true:=by rw[Nat.blt_eq];exact h
          rw[h2]at Gg;cases Gg
         omega
        split at he
        ·rename_i bTB;obtain⟨rfl,rfl⟩:=bTB;split at he
         ·rename_i wL;obtain⟨qI,wL⟩:=wL;obtain⟨e1,e2⟩:=Prod.mk.inj (Option.some.inj he);rw[<-e1,<-e2];obtain⟨hn,bFK,bNS⟩:=hc _ k ns hb rfl;subst hn;obtain⟨Lo,arr,aFI,aHJ,bFL⟩:=h.blk i _ hb;rw[kQ aFI]at bNS;obtain⟨A0,c0,Rt,jO⟩:=tW h aQK;obtain⟨ad,hA,_⟩:=jO 0 ms[0] (bWF qI);subst hA;obtain⟨g',Mf,nN,w',gF,hg,bCJ,aWD,rP,aFE,Rz,bEY⟩:=yI (P:=P) (m:=ms.length) (news:=fW k ms) o.type uY hi aKJ (by omega) aFI Bq bFK (by rw[sF];omega) ad c0 (by simp[fW,sF]) (fun j v hj=>by
           simp only[fW,bVS,bWQ]at hj;obtain⟨m,hm,rfl⟩:=hj;obtain⟨bOR,e1,e2⟩:=jO j m hm;cases e1;exact e2) (Hk k ms) (by unfold maxLen;unfold room at wL;omega) (by
           have:(ns.length+ms.length)*ie.bytes<=(ns.length+ms.length)*8:=bYC _ (by omega);unfold room at wL;omega)
          rw[sF,bVY]at rP;rw[sF,bVY,bVY,Nt bFL,La,<-bWS]at bEY;have h1:=h.appended (id:=id) (c2:=.ints k (ns ++ ms)) hb Gg (vI 0 (by omega)) hg bCJ aWD (fun _ _=>⟨by simp;omega,Oh bEY⟩);refine⟨_,.slice (some ⟨g',0,none⟩) (ns.length+ms.length) Mf,w',.inl (kS ho (f:=Builtin.append_) (fun _ _=>rfl) ?_),h1.pure hd (x:=.v (.one (.buf id (ns.length+ms.length)))) ?_ sT⟩
          ·simp only[bWJ,bVN,bWH,hv,Rt];exact gF
          ·refine⟨Mf,by rw[bJ],aFE,fun blk k1 Xq tY Hz=>?_,fun blk cs tY Hz=>by simp only[applyUps]at tY;rw[bJ]at tY;cases tY;cases Hz⟩;simp only[applyUps]at tY;rw[bJ]at tY;cases tY;cases Hz;refine⟨by simp,Rz,?_⟩;rw[bJ,kQ bCJ];exact rP
         ·cases he
        ·cases he
       ·cases he
      ·
       rename_i ms iP aQK;rw[iP]at hy;have hv:a.eval y=.slice none 0 0:=hy.1;split at he
       ·rename_i wL;obtain⟨qI,wL⟩:=wL;obtain⟨e1,e2⟩:=Prod.mk.inj (Option.some.inj he);rw[<-e1,<-e2];obtain⟨A0,c0,Rt,jO⟩:=tW h aQK;obtain⟨ad,hA,_⟩:=jO 0 ms[0] (bWF qI);subst hA;have hl:(fW k ms).length=ms.length*ie.size:=by simp[fW,sF]
        have Lm:ms.length*ie.bytes<=281474976710656:=by
         have:ms.length*ie.bytes<=ms.length*8:=bYC _ (by omega);unfold room at wL;omega
        have gF:=run_append_nil (P:=P) w t o.type e ie zv uY hi aKJ ad ms.length c0 (fW k ms) hl (fun j v hj=>by
         simp only[fW,bVS,bWQ]at hj;obtain⟨m,hm,rfl⟩:=hj;obtain⟨bOR,e1,e2⟩:=jO j m hm;cases e1;exact e2) qI (by unfold room at wL;omega) Lm
        have Ca:=grownCap_ge w ms.length 0 e;have Rz:grownCap w ms.length 0 e<=maxLen:=grownCap_le_maxLen w _ _ e (by unfold maxLen;unfold room at wL;omega);have h1:=h.drew.alloc (id:=id) (al':=nS al id) (vI 0 (by omega)) (fun _ h=>.inl h) (qE id) e (.ints k ms) ((fW k ms).toArray ++ Builtin.zeroCells zv.cells (grownCap w ms.length 0 e-ms.length)) (by
         refine⟨by simp[fW,oS,aCU,bVY],fun j n hn=>?_⟩;have hj:=aT hn;rw[Array.getElem?_append_left (by simp[fW];omega)];simp[fW,hn])
        refine⟨_,.slice (some ⟨w.heap.size,0,none⟩) ms.length (grownCap w ms.length 0 e),_,.inl (kS ho (f:=Builtin.append_) (fun _ _=>rfl) ?_),h1.pure hd (x:=.v (.one (.buf id ms.length))) ?_ sT⟩
        ·simp only[bWJ,bVN,bWH,hv,Rt];exact gF
        ·refine⟨_,by rw[bJ];rfl,Ca,fun blk k1 Xq tY Hz=>?_,fun blk cs tY Hz=>by rw[bJ]at tY;cases tY;cases Hz⟩;rw[bJ]at tY;cases tY;cases Hz;refine⟨rfl,Rz,?_⟩;rw[bJ,kQ (wO w.drew _)];simp only[Array.size_append,bXE,oS,aCU,bVY];simp[fW];omega
       ·cases he
      ·cases he
     ·cases he
    ·rename_i te _ Hx;exact Sm h hd vI uY (hT e _ Hx) ho he
    ·cases he
   ·cases he
  ·cases he
 | [],_,he=>simp at he
 | [_],_,he=>simp at he
 |_ :: _ :: _ :: _,_,he=>simp at he
 | [_,_],[],he=>simp at he
 | [_,_],[_],he=>simp at he
 | [_,_],_ :: _ :: _ :: _,he=>simp at he
theorem Ue{α:Type}(f:Nat->α)(i:Nat)(b:α)(h:f i=b):Ay f i b=f:=by
 funext j
 by_cases hj:j=i
 ·subst hj;rw[bJ,h]
 ·rw[fM _ _ hj]
theorem Pw(h:iU E X w0 ρ al fr hp a w){t t' e:TypeId}{bytes:Nat}{zero:List Value}{k:IntKind}(ty:TypeId)(uY:P.underlying t=some (.slice e))(Hx:Af P e ⟨1,bytes,zero,.int k⟩)
  {i off n dcap:Nat} {e':TypeId} {ns ms:List Int} (hb:hp i=some ⟨e',.ints k ns⟩) (hle:off+n<=ns.length) (Ad:Option Addr) (hA:0<n->Ad=some ⟨ρ i,off,none⟩)
  (As:Option Addr) (sc:Nat) (jO:∀(j:Nat) (m:Int),ms[j]?=some m->∃ad,As=some ad/\w.cell? (ad.add j)=some (.int k m)) :
  ∃w',(Builtin.copy_ #[t,t'] ty #[.slice Ad n dcap,.slice As ms.length sc]).run P w=.ok (.int .i64 (min ms.length n:Nat)) w' /\
   iU E X w0 ρ al fr (Ay hp i (some ⟨e',.ints k (ns.take off ++ (ms.take n ++ ns.drop (off+min ms.length n)))⟩)) a w':=by
 obtain⟨ie,hi,sF,_⟩:=Hx.i;have sF:ie.size=1:=sF;have Xu:(P.info? e).map (·.size)=some 1:=by simp[hi,sF]
 obtain⟨_,arr,aFI,aHJ,bFL⟩:=h.blk i _ hb
 by_cases h0:min ms.length n=0
 ·refine⟨w,?_,?_⟩
  ·have:=run_copy_none (P:=P) w t t' ty e Ad As n dcap ms.length sc uY Xu h0;rw[this,h0];rfl
  ·have hc:ns.take off ++ (ms.take n ++ ns.drop (off+min ms.length n))=ns:=by
    have:ms.take n=[]:=by
     apply bYD;rw[bYE];omega
    rw[this,h0];simp
   rw[hc,Ue _ _ _ hb];exact h
 ·have hn:0<n:=by omega
  have hm:0<ms.length:=by omega
  have hA:=hA hn;subst hA;obtain⟨ad,rfl,_⟩:=jO 0 ms[0] (bWF hm);have hlen:(fW k (ms.take n)).length=min ms.length n:=by rw[fW,bXC,bYE];omega
  have gF:=run_copy_row (P:=P) w t t' ty e (ρ i) off n dcap ad ms.length sc arr e' (fW k (ms.take n)) uY Xu aFI hlen (fun j v hj=>by
   simp only[fW,bVS,bWQ]at hj;obtain⟨m,hm,rfl⟩:=hj;have Zl:j<n:=by have:=aT hm;simp at this;omega
   rw[bVT Zl]at hm;obtain⟨bOR,e1,e2⟩:=jO j m hm;cases e1;exact e2) (by rw[hlen];have:ns.length<=arr.size:=aHJ;omega) (Hk k _)
  rw[hlen]at gF;refine⟨_,gF,?_⟩;have aHJ:ns.length<=arr.size:=aHJ;refine h.setRow hb _ _ ⟨fun k1 Xq e1=>?_,fun Ma e1=>by cases e1⟩ ?_ ?_
  ·cases e1;exact⟨k,ns,rfl,by simp;omega⟩
  ·rw[kQ aFI];simp[hlen];omega
  ·refine⟨by simp[hlen];omega,fun j m hj=>?_⟩;have jB:(ms.take n).length=min ms.length n:=by simp;omega
   rw[<-jB,List.pY ns (ms.take n) off j (by rw[jB];omega)]at hj;have e1:(arr.toList.take off ++ fW k (ms.take n) ++ arr.toList.drop (off+min ms.length n)).toArray[j]?=(arr.toList.take off ++ (fW k (ms.take n) ++ arr.toList.drop (off+(fW k (ms.take n)).length)))[j]?:=by
    rw[hlen];simp[bXJ]
   rw[e1,List.pY _ _ _ _ (by rw[hlen];simp;omega),hlen];rw[jB]at hj
   by_cases Zm:off<=j/\j<off+min ms.length n
   ·rw[if_pos Zm]at hj ⊢;simp only[fW,bVS,hj,bWC]
   ·rw[if_neg Zm]at hj ⊢;simpa using bFL j m hj
theorem aME(h:iU E X w0 ρ al fr hp a w)(hd:iT E.nt o=true)(hT:nU P E.T){args:Array Operand}{wY:Array TypeId}(ho:o.op=.call ⟨.builtin .copy,args,wY⟩)(he:pV E id o (evA E fr) hp=some (x,u)):jA P E X w0 al fr hp a w o id x u:=by
 obtain⟨args⟩:=args;obtain⟨wY⟩:=wY;unfold pV effK at he;rw[ho]at he;simp only[builtinK]at he
 match args,wY,he with
 | [y,z],[t,t'],he =>
  simp only[bVN,bWH]at he;split at he
  ·rename_i s0 b0 z0 e xA;obtain⟨d,uY,Dg⟩:=(hT t _ xA).d;have Dg:d=.slice e:=Dg;subst Dg;split at he
   ·rename_i bytes zero k Hx;have Lc:=hT e _ Hx;have hy:=(h.ev y).1;have fin:∀{i:Nat} {e':TypeId} {k':IntKind} {ns cs:List Int} {n:Nat},(∃w',(Builtin.copy_ #[t,t'] o.type (#[y,z].map a.eval)).run P w=.ok (.int .i64 n) w'/\iU E X w0 ρ al fr (Ay hp i (some ⟨e',.ints k cs⟩)) a w') ->
      jA P E X w0 al fr hp a w o id (Bo (.int .i64 n)) [(i,some ⟨e',.ints k cs⟩)]:=by
     intro i e' k' ns cs n hw;obtain⟨w',h1,h2⟩:=hw;exact⟨ρ,_,w',.inl (kS ho (f:=Builtin.copy_) (fun _ _=>rfl) h1),(h2.more id).pure hd ⟨rfl,rfl⟩ (by simp[mG])⟩
    split at he
    ·rename_i i n ms iP aQK;rw[iP]at hy;obtain⟨cap,hv,Bq,hc,_⟩:=hy;split at he
     ·rename_i e' k' ns hb;split at he
      ·rename_i hk;subst hk;obtain⟨e1,e2⟩:=Prod.mk.inj (Option.some.inj he);rw[<-e1,<-e2];obtain⟨hn,_⟩:=hc _ k ns hb rfl;obtain⟨A0,c0,Rt,jO⟩:=tW h aQK;have:=Pw (P:=P) h (t':=t') (off:=0) (n:=n) (dcap:=cap) o.type uY Lc hb (by omega) (some ⟨ρ i,0,none⟩) (fun _=>rfl) A0 c0 jO;simp only[List.take_zero,List.nil_append,bVQ]at this;refine fin (k':=k) (ns:=ns) ?_;simp only[bWJ,bVN,bWH,hv,Rt];exact this
      ·cases he
     ·cases he
    ·rename_i i off n ms iP aQK;rw[iP]at hy;obtain⟨Ad,cap,hv,Bq,hA,hc⟩:=wB hy;split at he
     ·rename_i e' k' ns hb;split at he
      ·rename_i hk;obtain⟨rfl,hle⟩:=hk;obtain⟨e1,e2⟩:=Prod.mk.inj (Option.some.inj he);rw[<-e1,<-e2];obtain⟨A0,c0,Rt,jO⟩:=tW h aQK;have:=Pw (P:=P) h (t':=t') (off:=off) (n:=n) (dcap:=cap) o.type uY Lc hb hle Ad hA A0 c0 jO;refine fin (k':=k) (ns:=ns) ?_;simp only[bWJ,bVN,bWH,hv,Rt];exact this
      ·cases he
     ·cases he
    ·cases he
   ·cases he
  ·cases he
 | [],_,he=>simp at he
 | [_],_,he=>simp at he
 |_ :: _ :: _ :: _,_,he=>simp at he
 | [_,_],[],he=>simp at he
 | [_,_],[_],he=>simp at he
 | [_,_],_ :: _ :: _ :: _,he=>simp at he
def lL(Y:Nat->Prop)(w:World):D->Value->Prop
 | .s x,v=>nO Y w x v
 | .rows sz n f,v=>∃A c,v=.slice A n c/\n<=c/\∀i,i<n->(f i).length=sz/\∃b off,A=some ⟨b,off,none⟩/\uG Y w b (off+i*sz) (f i)
 | .agg cs,v=>∃arr,v=.agg arr/\iK Y w cs arr.toList
 | .own _ k ns,v=>nO Y w (.ints k ns) v
 | .io _ _ _ _ _,_=>False
 | .back _ _ _,_=>False
def Qi(base:Nat)(w:World)(g:Nat)(e:TypeId)(k:IntKind)(ns:List Int)(v:Value):Prop :=
 ∃arr cap,v=.slice (some ⟨g,0,none⟩) ns.length cap/\base<=g/\w.heap[g]?=some (.cells arr e (0,0))/\ns.length<=cap/\cap<=arr.size/\cap<=maxLen/\∀(j:Nat) (n:Int),ns[j]?=some n->arr[j]?=some (Value.int k n)
def kB:D->Bool
 | .own _ _ _=>true
 |_=>false
def Tl(Y:Nat->Prop)(base:Nat)(w:World)(rs:List D)(vs:List Value):Prop :=
 ∃g:Nat->Nat,rs.length=vs.length/\(∀(i j:Nat) (d d':D),rs[i]?=some d->rs[j]?=some d'->kB d=true->kB d'=true->g i=g j->i=j) /\
  ∀(i:Nat) (d:D) (v:Value),rs[i]?=some d->vs[i]?=some v->match d with
   | .own e k ns=>Qi base w (g i) e k ns v
   |d=>lL (fun b=>Y b\/∃(j:Nat) (d':D),rs[j]?=some d'/\kB d'=true/\g j=b) w d v
def resV:List Value->Value
 | [v]=>v
 |vs=>.tuple vs.toArray
def Contract(P:Program)(glob:Nat->Option (IntKind×List Int))(f:FuncId)(ds rs:List D):Prop :=
 ∀(Y:Nat->Prop) (w:World) (vs:List Value),(∀b,Y b->b<w.heap.size)->GlobOk glob Y w->ds.length=vs.length ->
  (∀(i:Nat) (d:D) (v:Value),ds[i]?=some d->vs[i]?=some v->lL Y w d v) ->
  Calls P f vs.toArray w fun e w'=>∃tK,e=.returned (resV tK)/\Below w.heap.size w w'/\Tl Y w.heap.size w' rs tK
def aAN(w:World)(g len off n:Nat)(v:Value):Prop :=
 ∃o' cap,v=.slice (some ⟨g,o',none⟩) n cap/\n<=cap/\(0<n->o'=off)/\(off=0->o'=0)/\off+n<=len/\cap<=maxLen/\cap<=lA w g
def aYJ(w:World)(g:Nat)(e:TypeId)(k:IntKind)(ns:List Int)(off n:Nat)(v:Value):Prop :=
 aAN w g ns.length off n v/\Ey (fun _=>False) w g ⟨e,.ints k ns⟩
def Dy:D->Bool
 | .io _ _ _ _ _=>true
 |_=>false
def aEI(Y:Nat->Prop)(w:World)(g:Nat->Nat)(i:Nat)(v:Value):D->Prop
 | .io e k ns off n=>Y (g i)/\aYJ w (g i) e k ns off n v
 |d=>lL Y w d v
def Tu(w:World)(b:Nat):D->Prop
 | .io e k ns _ _=>Ey (fun _=>False) w b ⟨e,.ints k ns⟩
 |_=>False
structure Cy(M:Nat->Prop)(w w':World):Prop where
 os:w'.os=w.os
 tape:w'.tape=w.tape
 output:w'.output=w.output
 size:w.heap.size<=w'.heap.size
 block:∀b,b<w.heap.size->¬M b->w'.heap[b]?=w.heap[b]?
 room:∀b,M b->lA w' b=lA w b
def Ct(ps:List Nat)(g:Nat->Nat)(b:Nat):Prop:=∃i,i∈ps/\g i=b
def aTY(ps:List Nat)(ds js:List D):Prop :=
 ∀(j i:Nat),ps[j]?=some i->∃e k ns off n e' k' mZ,ds[i]?=some (.io e k ns off n)/\js[j]?=some (.io e' k' mZ 0 0)/\mZ.length=ns.length
def bLK(Y:Nat->Prop)(base:Nat)(w:World)(ps:List Nat)(js:List D)(g0:Nat->Nat)(gi:Nat)(v:Value):D->Prop
 | .own e k ns=>Qi base w gi e k ns v
 | .back p off n=>∃(j:Nat) (e:TypeId) (k:IntKind) (ns:List Int),ps[j]?=some p/\js[j]?=some (.io e k ns 0 0)/\aAN w (g0 p) ns.length off n v
 |d=>lL Y w d v
def Tk(Y:Nat->Prop)(base:Nat)(w:World)(ps:List Nat)(js:List D)(g0:Nat->Nat)(rs:List D)(vs:List Value):Prop :=
 ∃g:Nat->Nat,rs.length=vs.length/\(∀(i j:Nat) (d d':D),rs[i]?=some d->rs[j]?=some d'->kB d=true->kB d'=true->g i=g j->i=j) /\
  ∀(i:Nat) (d:D) (v:Value),rs[i]?=some d->vs[i]?=some v->bLK (fun b=>Y b\/∃(j:Nat) (d':D),rs[j]?=some d'/\kB d'=true/\g j=b) base w ps js g0 (g i) v d
structure oL(P:Program)(glob:Nat->Option (IntKind×List Int))(f:FuncId)(ps:List Nat)(ds rs js:List D):Prop where
 len:js.length=ps.length
 io:aTY ps ds js
 run:∀(Y:Nat->Prop) (w:World) (vs:List Value) (g:Nat->Nat),(∀b,Y b->b<w.heap.size)->GlobOk glob Y w->ds.length=vs.length ->
  (∀(i:Nat) (d:D) (v:Value),ds[i]?=some d->vs[i]?=some v->aEI Y w g i v d)->(∀i j,i∈ps->j∈ps->g i=g j->i=j) ->
  Calls P f vs.toArray w fun e w'=>∃tK,e=.returned (resV tK)/\Cy (Ct ps g) w w'/\Tk Y w.heap.size w' ps js g rs tK/\∀(j i:Nat) (d:D),ps[j]?=some i->js[j]?=some d->Tu w' (g i) d
def oG(P:Program)(f:FuncId):Prop:=∀(vs:Array Value) (w:World),(callFunc f vs).run P w=.ok (.enter f vs) w
structure jR(P:Program)(E:Env):Prop where
 c:∀f ds g rs,E.ioF f=[]->E.C f ds=some (g,rs)->g->Contract P E.glob f ds rs/\oG P f
 i:∀f p ps ds g rs,E.ioF f=p :: ps->E.C f ds=some (g,rs)->g->∃Fp js,rs=Fp ++ js/\oL P E.glob f (p :: ps) ds Fp js/\oG P f
 x:∀f vs g rs,E.ext f vs=some (g,rs)->g->(∀v∈rs,v.oneCell'=true)/\∀w,(callFunc f vs.toArray).run P w=.ok (.value (resV rs)) w
theorem lL.later{Y Y':Nat->Prop}{w w':World}(h:iA Y w Y' w'){d:D}{v:Value}(r:lL Y w d v):lL Y' w' d v:=by
 cases d with
 |s x=>exact nO.later h r
 |rows sz n f =>
  obtain⟨A0,c,hv,hle,hc⟩:=r;refine⟨A0,c,hv,hle,fun i hi=>?_⟩;obtain⟨hl,b,off,hA,Ry⟩:=hc i hi;exact⟨hl,b,off,hA,Ry.later h⟩
 |agg cs=>obtain⟨arr,hv,hr⟩:=r;exact⟨arr,hv,hr.later h⟩
 |own e k ns=>exact nO.later (s:=.ints k ns) h r
 |io=>exact r
 |back=>exact r
theorem nO.any{Y Y':Nat->Prop}{w w':World}{x:S}{v:Value}(hs:Io x=false)(r:nO Y w x v):nO Y' w' x v:=by
 cases x with
 |sc u=>exact r
 |bot=>exact r
 |ints k ns=>cases hs
 |pt x=>cases hs
 |Sr f xs=>cases hs
theorem lL.any{Y Y':Nat->Prop}{w w':World}{d:D}{v:Value}(hs:shares d=false)(ho:kB d=false)(r:lL Y w d v):lL Y' w' d v:=by
 cases d with
 |s x=>exact nO.any hs r
 |rows sz n f=>cases hs
 |agg cs =>
  obtain⟨arr,hv,hl,hr⟩:=r;refine⟨arr,hv,hl,fun i s u h1 h2=>(hr i s u h1 h2).any ?_⟩;have:=List.any_eq_false.1 (show cs.any Io=false from hs) s (bVX h1);simpa using this
 |own e k ns=>cases ho
 |io=>exact r
 |back=>exact r
def aAI(args:List A):pS:=(args.flatMap refs).map fun i=>(i,none)
theorem Xa(args:List A):Cons (aAI args):=by
 intro p hp;obtain⟨i,_,rfl⟩:=List.mem_map.1 hp;rfl
theorem Fh(h:iU E X w0 ρ al fr hp a w){u:pS}(hu:Cons u){y:A}{v:Value}(hr:wA ρ hp (XO X ρ hp) w y v)(Zm:∀i∈refs y,(i,none)∈u){d:D}(hd:toD hp y=some d):lL (XO X ρ (applyUps u hp)) w d v:=by
 have hl:iA (XO X ρ hp) w (XO X ρ (applyUps u hp)) w:=iA.cons hu;unfold toD at hd;split at hd
 ·cases hd;obtain⟨arr,hv,hs⟩:=hr;exact⟨arr,hv,hs.later hl⟩
 ·cases hd;exact nO.later hl hr
 ·cases hd;exact lL.later hl (d:=.rows _ _ _) hr
 ·rename_i i n;split at hd
  ·rename_i e k ns hb;cases hd;obtain⟨cap,hv,Bq,hc,_⟩:=hr;obtain⟨hn,_⟩:=hc _ k ns hb rfl;subst hn;refine⟨_,cap,hv,Bq,fun j m hj=>⟨ρ i,0,rfl,h.iV hb,h.Pr hb hu (Zm i (by simp[refs,refsV,refsL])),?_⟩⟩;rw[bVQ];exact h.xT hb hj
  ·rename_i e cs hb;split at hd
   ·rename_i hlen;cases hd;obtain⟨cap,hv,Bq,_⟩:=hr;refine⟨_,cap,hv,Bq,fun j hj=>?_⟩;have hle:(j+1)*(cs.length/n)<=n*(cs.length/n):=bXD _ hj;rw[bWI,Nat.one_mul]at hle;refine⟨by simp;omega,ρ i,0,rfl,fun m s hm=>?_⟩;have bIP:m<cs.length/n:=by
     have:=aT hm;simp at this;omega
    rw[bVT bIP,bWB]at hm;obtain⟨_,hB⟩:=h.blk i _ hb;obtain⟨arr,aQU,bCZ⟩:=hB;obtain⟨aTL,Ry⟩:=bCZ;obtain⟨u0,aYU,bNA⟩:=Ry _ _ hm;refine⟨h.iV hb,h.Pr hb hu (Zm i (by simp[refs,refsV,refsL])),u0,?_,nO.later hl bNA⟩;rw[cell_of_row w (ρ i) _ arr e (0,0) aQU,bVQ];exact aYU
   ·cases hd
  ·cases hd
 ·rename_i i off n;split at hd
  ·rename_i e k ns hb;cases hd;obtain⟨A0,cap,hv,Bq,hA,hc⟩:=wB hr;have hle:=hc _ k ns hb rfl;have hlen:((ns.drop off).take n).length=n:=by simp;omega
   refine⟨A0,cap,by rw[hlen];exact hv,by rw[hlen];exact Bq,fun j m hj=>?_⟩;have Zl:j<n:=by have:=aT hj;omega
   refine⟨ρ i,off,hA (by omega),h.iV hb,h.Pr hb hu (Zm i (by simp[refs,refsV,refsL])),?_⟩;rw[bVT Zl,bWB]at hj;exact h.xT hb hj
  ·cases hd
 ·cases hd
theorem iU.called(h:iU E X w0 ρ al fr hp a w){w':World}(hB:Below w.heap.size w w'){ρ':Nat->Nat}{hp':Nat->Option jT}{al':Nat->Prop}(qW:∀i,al i->al' i)
  (hold:∀i,al i->ρ' i=ρ i/\hp' i=hp i) (sT:∀i b,hp' i=some b->¬al i->al' i/\w.heap.size<=ρ' i/\∀Y,Ey Y w' (ρ' i) b)
  (zU:∀i j b c,hp' i=some b->hp' j=some c->¬al i->¬al j->ρ' i=ρ' j->i=j):iU E X w0 ρ' al' fr hp' a w'/\iA (XO X ρ hp) w (XO X ρ' hp') w':=by
 have Zn:Kept w0 w w':=⟨hB.os,hB.tape,hB.output,hB.size,fun b hb=>hB.block b (by have:=h.below.size;have:=Old.Va hb;omega),fun b hb=>wT (hB.block b (by have:=h.below.size;have:=w0.bAI b hb;omega))⟩;have hl:iA (XO X ρ hp) w (XO X ρ' hp') w':=by
  refine⟨hB.size,fun b hb hx=>⟨hB.block b hb,fun ho=>?_⟩⟩;rcases ho with ho |⟨i,bl,h1,h2⟩
  ·exact hx (.inl ho)
  ·by_cases hi:al i
   ·obtain⟨e1,e2⟩:=hold i hi;exact hx (.inr ⟨i,bl,by rw[<-e2];exact h1,by rw[<-e1];exact h2⟩)
   ·have:=(sT i bl h1 hi).2.1;omega
 refine⟨h.change hl Zn ?_ ?_ ?_ qW ?_,hl⟩
 ·intro i hi;obtain⟨e1,e2⟩:=hold i hi;refine⟨e1,fun b' uZ=>?_⟩;rw[e2]at uZ;refine⟨b',uZ,sameShape.refl _,?_⟩;unfold lA;rw[hB.block _ (h.iV uZ)]
 ·intro i b hb
  by_cases hi:al i
  ·obtain⟨e1,e2⟩:=hold i hi;rw[e2]at hb;rw[e1];exact⟨(h.blk i b hb).1,(h.blk i b hb).2.later hl (hB.block _ (h.iV hb))⟩
  ·obtain⟨_,h2,h3⟩:=sT i b hb hi;exact⟨.inl (bWK h.below.size h2),h3 _⟩
 ·intro i j b c hb hc e
  by_cases hi:al i
  ·obtain⟨e1,e2⟩:=hold i hi
   by_cases hj:al j
   ·obtain⟨e3,e4⟩:=hold j hj;rw[e2]at hb;rw[e4]at hc;rw[e1,e3]at e;exact h.inj i j b c hb hc e
   ·rw[e2]at hb;have:=h.iV hb;have:=(sT j c hc hj).2.1;omega
  ·by_cases hj:al j
   ·obtain⟨e3,e4⟩:=hold j hj;rw[e4]at hc;have:=h.iV hc;have:=(sT i b hb hi).2.1;omega
   ·exact zU i j b c hb hc hi hj e
 ·intro i b hb
  by_cases hi:al i
  ·exact qW i hi
  ·exact(sT i b hb hi).1
theorem iU.aNA(h:iU E X w0 ρ al fr hp a w){w':World}{M:Nat->Prop}(hB:Cy M w w')(hM:∀b,M b->Own ρ hp b){ρ':Nat->Nat}{hp':Nat->Option jT}{al':Nat->Prop}(qW:∀i,al i->al' i)
  (hρ:∀i,al i->ρ' i=ρ i)
  (hold:∀i b',al i->hp' i=some b'->(¬M (ρ i)/\hp i=some b')\/(M (ρ i)/\∃b,hp i=some b/\sameShape b b'/\∀Y,Ey Y w' (ρ i) b'))
  (sT:∀i b,hp' i=some b->¬al i->al' i/\w.heap.size<=ρ' i/\∀Y,Ey Y w' (ρ' i) b)
  (zU:∀i j b c,hp' i=some b->hp' j=some c->¬al i->¬al j->ρ' i=ρ' j->i=j):iU E X w0 ρ' al' fr hp' a w'/\iA (XO X ρ hp) w (XO X ρ' hp') w':=by
 have bBW:∀b,M b->w0.Hw b:=fun b hb=>by
  obtain⟨id,bl,h1,rfl⟩:=hM b hb;exact(h.blk id bl h1).1.Hw
 have Zn:Kept w0 w w':=⟨hB.os,hB.tape,hB.output,hB.size,fun b hb=>hB.block b (by have:=h.below.size;have:=Old.Va hb;omega) (fun hm=>hb (bBW b hm)),fun b hb=>by
  by_cases hm:M b
  ·exact hB.room b hm
  ·exact wT (hB.block b (by have:=h.below.size;have:=w0.bAI b hb;omega) hm)⟩
 have Vt:∀i b',al i->hp' i=some b'->∃b,hp i=some b/\sameShape b b':=by
  intro i b' hi hb;rcases hold i b' hi hb with ⟨_,h2⟩ |⟨_,b,h2,h3,_⟩
  ·exact⟨b',h2,sameShape.refl _⟩
  ·exact⟨b,h2,h3⟩
 have hl:iA (XO X ρ hp) w (XO X ρ' hp') w':=by
  refine⟨hB.size,fun b hb hx=>⟨hB.block b hb (fun hm=>hx (.inr (hM b hm))),fun ho=>?_⟩⟩;rcases ho with ho |⟨i,bl,h1,h2⟩
  ·exact hx (.inl ho)
  ·by_cases hi:al i
   ·obtain⟨b0,h3,_⟩:=Vt i bl hi h1;exact hx (.inr ⟨i,b0,h3,by rw[<-hρ i hi];exact h2⟩)
   ·have:=(sT i bl h1 hi).2.1;omega
 have sF:∀i b,al i->hp i=some b->lA w' (ρ i)=lA w (ρ i):=by
  intro i b hi hb
  by_cases hm:M (ρ i)
  ·exact hB.room _ hm
  ·exact wT (hB.block _ (h.iV hb) hm)
 refine⟨h.change hl Zn ?_ ?_ ?_ qW ?_,hl⟩
 ·intro i hi;refine⟨hρ i hi,fun b' uZ=>?_⟩;obtain⟨b,h2,h3⟩:=Vt i b' hi uZ;exact⟨b,h2,h3,sF i b hi h2⟩
 ·intro i b hb
  by_cases hi:al i
  ·rw[hρ i hi];rcases hold i b hi hb with ⟨hm,h2⟩ |⟨_,b0,h2,_,h4⟩
   ·exact⟨(h.blk i b h2).1,(h.blk i b h2).2.later hl (hB.block _ (h.iV h2) hm)⟩
   ·exact⟨(h.blk i b0 h2).1,h4 _⟩
  ·obtain⟨_,h2,h3⟩:=sT i b hb hi;exact⟨.inl (bWK h.below.size h2),h3 _⟩
 ·intro i j b c hb hc e
  by_cases hi:al i
  ·obtain⟨b0,h1,_⟩:=Vt i b hi hb
   by_cases hj:al j
   ·obtain⟨c0,h2,_⟩:=Vt j c hj hc;rw[hρ i hi,hρ j hj]at e;exact h.inj i j b0 c0 h1 h2 e
   ·rw[hρ i hi]at e;have:=h.iV h1;have:=(sT j c hc hj).2.1;omega
  ·by_cases hj:al j
   ·obtain⟨c0,h2,_⟩:=Vt j c hj hc;rw[hρ j hj]at e;have:=h.iV h2;have:=(sT i b hb hi).2.1;omega
   ·exact zU i j b c hb hc hi hj e
 ·intro i b hb
  by_cases hi:al i
  ·exact qW i hi
  ·exact(sT i b hb hi).1
theorem yY(keep:Bool):∀(rs:List D) (id:Nat),(takeAll keep id rs).1.length=rs.length
 | [],_=>rfl
 |d :: r,id=>by simp[takeAll,yY keep r (id+1)]
theorem yZ(keep:Bool):∀(rs:List D) (id:Nat) (i:Nat) (d:D),rs[i]?=some d->(takeAll keep id rs).1[i]?=some (takeIn keep (id+i) d).1
 |d0 :: r,id,0,d,h=>by simp at h;subst h;rfl
 |d0 :: r,id,i+1,d,h=>by
  simp only[bXL]at h;have:=yZ keep r (id+1) i d h;simp only[takeAll,bXL,this];rw[show id+1+i=id+(i+1) by omega]
theorem takeAll_ups(keep:Bool):∀(rs:List D) (id:Nat) (hp:Nat->Option jT) (j:Nat),
  applyUps (takeAll keep id rs).2 hp j=match (if id<=j then rs[j-id]? else none)with
   |some (.own e k ns)=>if keep=true then some ⟨e,.ints k ns⟩else hp j
   |_=>hp j
 | [],id,hp,j=>by simp[takeAll,applyUps]
 |d :: r,id,hp,j=>by
  simp only[takeAll];rw[kR,takeAll_ups keep r (id+1)]
  by_cases hj:id+1<=j
  ·rw[if_pos hj,aU];have e:j-id=(j-(id+1))+1:=by omega
   rw[e,bXL];have hd:applyUps (takeIn keep id d).2 hp j=hp j:=by
    cases d <;> cases keep <;> first |rfl | (simp only[takeIn,cond_true,applyUps];rw[fM _ _ (by omega)])
   rw[hd]
  ·rw[if_neg hj]
   by_cases bSL:id<=j
   ·obtain rfl:j=id:=by omega
    rw[if_pos (bVO _),Nat.sub_self];cases d <;> cases keep <;> simp[takeIn,applyUps,bJ]
   ·rw[if_neg bSL];cases d <;> cases keep <;> first |rfl | (simp only[takeIn,cond_true,applyUps];rw[fM _ _ (by omega)])
end
end AI
namespace AI
open Go Go.RowKit
section
variable {P:Program} {E:Env} {X:Nat->Prop} {w0:Old} {ρ:Nat->Nat} {al:Nat->Prop} {fr:Nat->A} {hp:Nat->Option jT} {a:Act} {w:World} {o:Oper} {id:Nat} {x:A} {u:pS}
def Mr(P:Program)(E:Env)(X:Nat->Prop)(w0:Old)(al:Nat->Prop)(fr:Nat->A)(hp:Nat->Option jT)(a:Act)(w:World)(o:Oper)(id:Nat)(x:A)(u:pS):Prop :=
 ∀(next:Act->World->Prop) (Q:Exit->Act->World->Prop),(∀ρ' v w',iU E X w0 ρ' (nS al id) (Cp o x fr) (applyUps u hp) (a.put o.dst v) w'->next (a.put o.dst v) w')->o.wp P a w next Q
theorem jA.step(h:jA P E X w0 al fr hp a w o id x u):Mr P E X w0 al fr hp a w o id x u:=by
 intro next Q hn;obtain⟨ρ',v,w',hr,hs⟩:=h;unfold Oper.wp;rcases hr with hr |⟨hr,rfl⟩
 ·rw[hr];exact hn ρ' v w' hs
 ·rw[hr];exact hn ρ' undef w' hs
theorem Vg{α β:Type}{f:α->Option β}:∀{l:List α} {r:List β},l.mapM f=some r->∀(i:Nat) (y:β),r[i]?=some y->∃x,l[i]?=some x/\f x=some y
 | [],r,h,i,y,hy=>by simp at h;subst h;simp at hy
 |x :: l,r,h,i,y,hy=>by
  rw[bWX]at h;simp only[bXT,bXU,bXV,Option.some.injEq]at h;obtain⟨z,hz,zs,aCU,rfl⟩:=h
  match i with
  |0=>simp at hy;subst hy;exact⟨x,rfl,hz⟩
  |i+1=>simp at hy ⊢;exact Vg aCU i y hy
theorem Za{args:List A}{y:A}(hy:y∈args){i:Nat}(hi:i∈refs y):(i,none)∈aAI args :=
 List.mem_map.2 ⟨i,List.mem_flatMap.2 ⟨y,hy,hi⟩,rfl⟩
theorem Cc(h:iU E X w0 ρ al fr hp a w):∀{args:List Operand} {vs:List Value},argVals (args.map (evA E fr))=some vs->args.map a.eval=vs
 | [],vs,he=>by cases he;rfl
 |y :: ys,vs,he=>by
  simp only[bVN]at he ⊢;unfold argVals at he;split at he
  ·cases ‹_ :: _=[]›
  ·rename_i v r iP;obtain⟨e1,e2⟩:=List.cons.inj iP;obtain⟨vr,bMO,rfl⟩:=Option.map_eq_some_iff.1 he;have hy:=(h.ev y).1;rw[e1]at hy;rw[<-e2]at bMO;rw[Cc h bMO,hy.1]
  ·cases he
theorem Lr{R:Type}{g:Prop}{x:Option R}{r:R}(h:aO g x=some r):g/\x=some r:=by
 unfold aO at h;split at h
 ·rename_i hg;exact⟨hg,h⟩
 ·cases h
theorem aQY{R:Type}{g:Prop}{x:Option R}(h:g):aO g x=x:=by unfold aO;rw[if_pos h]
theorem aRJ (h : iU E X w0 ρ al fr hp a w) (hd : iT E.nt o = true) (hC : jR P E) {f : FuncId} {fo : Operand} (hf : a.eval fo = .func (.func f) #[] #[]) {args : List Operand} {wY : Array TypeId} (ho : o.op = .call ⟨.value fo, args.toArray, wY⟩) {g : Prop} {rs : List Value} (hr : (argVals (args.map (evA E fr))).bind (E.ext f) = some (g, rs)) (hg : g)
    (he : some (bAC rs, []) = some (x, u)) : jA P E X w0 al fr hp a w o id x u := by
  obtain ⟨vs, aQF, hx⟩ := Option.bind_eq_some_iff.1 hr
  obtain ⟨Le, gF⟩ := hC.x f vs g rs hx hg
  have hargs := Cc h aQF
  have hex : (execOp a.eval o).run P w = .ok (.value (resV rs)) w := by
    unfold execOp
    rw [ho]
    simp only [resolve, hf, Deferred.ofValue, Sem.run_bind, Sem.run_pure, Result.andThen_ok, invoke]
    rw [← gF w]
    congr 1
    simp [← hargs]
  match rs, he with
  | [v], he =>
    obtain ⟨e1, e2⟩ := Prod.mk.inj (Option.some.inj he)
    rw [← e1, ← e2]
    exact cA h hd hex ⟨rfl, Le v (by simp)⟩ (by intro i hi; cases hi)
  | [], he =>
    obtain ⟨e1, e2⟩ := Prod.mk.inj (Option.some.inj he)
    rw [← e1, ← e2]
    exact cA h hd hex ⟨#[], rfl, rfl, fun i y v hy => by simp at hy⟩ (by intro i hi; cases hi)
  | v1 :: v2 :: vr, he =>
    obtain ⟨e1, e2⟩ := Prod.mk.inj (Option.some.inj he)
    rw [← e1, ← e2]
    refine cA h hd hex ⟨(v1 :: v2 :: vr).toArray, rfl, by simp, fun i y v hy hv => ?_⟩ ?_
    · simp only [bVS, bWQ] at hy
      obtain ⟨q, hq, rfl⟩ := hy
      have : q = v := by have : (v1 :: v2 :: vr)[i]? = some v := by simpa using hv
                         rw [hq] at this; exact Option.some.inj this
      subst this
      exact ⟨rfl, Le q (bVX hq)⟩
    · intro j hj
      obtain ⟨y, hy, hj⟩ := List.mem_flatMap.1 hj
      obtain ⟨q, _, rfl⟩ := List.mem_map.1 hy
      simp [refsV, refsL] at hj
theorem aCP:∀{l r:List Nat},leqN l r=true->l=r
 | [],[],_=>rfl
 |a :: l,b :: r,h=>by
  simp only[leqN,bVU]at h;rw[bWD h.1,aCP h.2]
 | [],_ :: _,h=>by cases h
 |_ :: _,[],h=>by cases h
theorem Ac(ps:List Nat)(hp:Nat->Option jT):∀(args:List A) (i:Nat) (us:List (Nat×Nat)) (ds:List D),argsIO ps hp i args=some (us,ds) ->
  (∃gid:Nat->Nat,∀q∈us,i<=q.1/\gid q.1=q.2)/\(∀q∈us,∃y d,args[q.1-i]?=some y/\i<=q.1/\toIO hp y=some (q.2,d)/\ds[q.1-i]?=some d)/\ds.length=args.length /\
  ∀(j:Nat) (d:D),ds[j]?=some d->∃y,args[j]?=some y/\((∃k,toIO hp y=some (k,d)/\(i+j,k)∈us)\/(toD hp y=some d/\∀r∈refs y,r∈oT ps i args))
 | [],i,us,ds,h=>by
  cases h;exact⟨⟨fun _=>0,fun q hq=>by cases hq⟩,fun q hq=>(by cases hq),rfl,fun j d hj=>by simp at hj⟩
 |y :: args,i,us,ds,h=>by
  unfold argsIO at h;cases Gf:ps.elem i with
  |true =>
   rw[Gf]at h;simp only[cond_true]at h;split at h
   ·rename_i k d Lj;split at h
    ·rename_i bLU ds' hr;cases h;obtain⟨⟨gid,h1⟩,h2,h3,h4⟩:=Ac ps hp args (i+1) bLU ds' hr;refine⟨⟨fun q=>if q=i then k else gid q,?_⟩,?_,by simp[h3],?_⟩
     ·intro q hq;rcases List.mem_cons.1 hq with rfl |hq
      ·exact⟨bVO _,by simp⟩
      ·obtain⟨h5,h6⟩:=h1 q hq;exact⟨by omega,by simp only;rw[aW];exact h6⟩
     ·intro q hq;rcases List.mem_cons.1 hq with rfl |hq
      ·exact⟨y,d,by simp,bVO _,Lj,by simp⟩
      ·obtain⟨y',d',h5,h6,h7,h8⟩:=h2 q hq;exact⟨y',d',by rw[show q.1-i=(q.1-(i+1))+1 by omega];simpa using h5,by omega,h7,by rw[show q.1-i=(q.1-(i+1))+1 by omega];simpa using h8⟩
     ·intro j d' hj
      match j with
      |0 =>
       simp at hj;subst hj;exact⟨y,rfl,.inl ⟨k,Lj,by simp⟩⟩
      |j+1 =>
       obtain⟨y',h5,h6⟩:=h4 j d' (by simpa using hj);refine⟨y',by simpa using h5,?_⟩;rcases h6 with ⟨k',h7,h8⟩ |⟨h7,h8⟩
       ·exact .inl ⟨k',h7,bVZ _ (by rw[show i+(j+1)=i+1+j by omega];exact h8)⟩
       ·exact .inr ⟨h7,fun r hr=>by unfold oT;exact bYF _ (h8 r hr)⟩
    ·cases h
   ·cases h
  |false =>
   rw[Gf]at h;simp only[cond_false]at h;split at h
   ·rename_i d Lj;split at h
    ·rename_i bLU ds' hr;cases h;obtain⟨⟨gid,h1⟩,h2,h3,h4⟩:=Ac ps hp args (i+1) us ds' hr;refine⟨⟨gid,fun q hq=>⟨by have:=(h1 q hq).1;omega,(h1 q hq).2⟩⟩,?_,by simp[h3],?_⟩
     ·intro q hq;obtain⟨y',d',h5,h6,h7,h8⟩:=h2 q hq;exact⟨y',d',by rw[show q.1-i=(q.1-(i+1))+1 by omega];simpa using h5,by omega,h7,by rw[show q.1-i=(q.1-(i+1))+1 by omega];simpa using h8⟩
     ·intro j d' hj
      match j with
      |0 =>
       simp at hj;subst hj;exact⟨y,rfl,.inr ⟨Lj,fun r hr=>by unfold oT;rw[Gf];exact List.mem_append_left _ hr⟩⟩
      |j+1 =>
       obtain⟨y',h5,h6⟩:=h4 j d' (by simpa using hj);refine⟨y',by simpa using h5,?_⟩;rcases h6 with ⟨k',h7,h8⟩ |⟨h7,h8⟩
       ·exact .inl ⟨k',h7,by rw[show i+(j+1)=i+1+j by omega];exact h8⟩
       ·exact .inr ⟨h7,fun r hr=>by unfold oT;exact bYF _ (h8 r hr)⟩
    ·cases h
   ·cases h
theorem Ho:∀(us:List (Nat×Nat)) (js:List D) (ub:pS),backIO us js=some ub->ub.map (·.1)=us.map (·.2)/\∀(j:Nat) (q:Nat×Nat),us[j]?=some q->∃e k ns o n,js[j]?=some (.io e k ns o n)/\ub[j]?=some (q.2,some ⟨e,.ints k ns⟩)
 | [],[],ub,h=>by cases h;exact⟨rfl,fun j q hj=>by simp at hj⟩
 | (p,k) :: us,d :: js,ub,h=>by
  cases d with
  |io e kk ns o n =>
   simp only[backIO]at h;split at h
   ·rename_i bPI hr;cases h;obtain⟨h1,h2⟩:=Ho us js bPI hr;refine⟨by simp[h1],fun j q hj=>?_⟩
    match j with
    |0=>simp at hj;subst hj;exact⟨e,kk,ns,o,n,rfl,rfl⟩
    |j+1 =>
     obtain⟨e',k',mZ,o',n',h3,h4⟩:=h2 j q (by simpa using hj);exact⟨e',k',mZ,o',n',by simpa using h3,by simpa using h4⟩
   ·cases h
  |s=>cases h
  |rows=>cases h
  |agg=>cases h
  |own=>cases h
  |back=>cases h
 | [],_ :: _,ub,h=>by cases h
 |_ :: _,[],ub,h=>by cases h
theorem rB{i:Nat}:∀{u:pS} {hp:Nat->Option jT},i ∉ u.map (·.1)->applyUps u hp i=hp i
 | [],_,_=>rfl
 | (j,b) :: u,hp,h=>by
  simp only[bVN,bWW,not_or]at h;simp only[applyUps];rw[rB h.2,fM _ _ h.1]
theorem Hp{i:Nat}{b:Option jT}:∀{u:pS} {hp:Nat->Option jT} {j:Nat},nodup (u.map (·.1))=true->u[j]?=some (i,b)->applyUps u hp i=b
 | [],_,j,_,h=>by simp at h
 | (k,c) :: u,hp,j,hn,h=>by
  simp only[bVN,nodup,bVU,bWY]at hn
  match j with
  |0 =>
   simp at h;obtain⟨rfl,rfl⟩:=h;simp only[applyUps];rw[rB (fun hm=>by
    have:(u.map (·.1)).elem k=true:=by simpa using hm
    rw[this]at hn;cases hn.1),bJ]
  |j+1 =>
   simp only[applyUps];exact Hp (j:=j) hn.2 (by simpa using h)
theorem Fx{α:Type}{f:α->Nat}:∀{l:List α} {j j':Nat} {q q':α},nodup (l.map f)=true->l[j]?=some q->l[j']?=some q'->f q=f q'->j=j'
 | [],j,_,q,_,_,h,_,_=>by simp at h
 |y :: l,j,j',q,q',hn,h,h',he=>by
  simp only[bVN,nodup,bVU,bWY]at hn;have yS:∀z∈l,f z≠f y:=fun z hz e=>by
   have:(l.map f).elem (f y)=true:=by
    have:f y∈l.map f:=List.mem_map.2 ⟨z,hz,e⟩;simpa using this
   rw[this]at hn;cases hn.1
  match j,j' with
  |0,0=>rfl
  |0,j'+1=>simp at h h';subst h;exact absurd he.symm (yS q' (bVX h'))
  |j+1,0=>simp at h h';subst h';exact absurd he (yS q (bVX h))
  |j+1,j'+1=>exact congrArg (·+1) (Fx hn.2 (by simpa using h) (by simpa using h') he)
theorem aMJ{xs ys:List Nat}(h:Of xs ys=true){x:Nat}(hx:x∈xs):x ∉ ys:=fun hy=>by
 have:=List.all_eq_true.1 h x hx;have h2:ys.elem x=true:=by simpa using hy
 rw[h2]at this;cases this
theorem Fg{y:A}{k:Nat}{d:D}(h:toIO hp y=some (k,d)):∃e kk ns off n,d=.io e kk ns off n/\hp k=some ⟨e,.ints kk ns⟩/\((y=.v (.one (.buf k n))/\off=0)\/y=.v (.one (.view k off n))):=by
 unfold toIO at h;split at h
 ·split at h
  ·rename_i e kk ns hb;cases h;exact⟨_,_,_,_,_,rfl,hb,.inl ⟨rfl,rfl⟩⟩
  ·cases h
 ·split at h
  ·rename_i e kk ns hb;cases h;exact⟨_,_,_,_,_,rfl,hb,.inr rfl⟩
  ·cases h
 ·cases h
theorem Yh(h:iU E X w0 ρ al fr hp a w){y:A}{v:Value}(hr:wA ρ hp (XO X ρ hp) w y v){k:Nat}{e:TypeId}{kk:IntKind}{ns:List Int}{off n:Nat}(hd:toIO hp y=some (k,.io e kk ns off n)):aYJ w (ρ k) e kk ns off n v:=by
 obtain⟨e',kk',mZ,bAJ,n',heq,hb,hy⟩:=Fg hd;cases heq;have hB:Ey (fun _=>False) w (ρ k) ⟨e,.ints kk ns⟩:=(h.blk k _ hb).2;rcases hy with ⟨rfl,rfl⟩ |rfl
 ·obtain⟨cap,hv,Bq,hc,_⟩:=hr;have:=hc _ kk ns hb rfl;exact⟨⟨0,cap,hv,Bq,fun _=>rfl,fun _=>rfl,by omega,this.2.1,this.2.2⟩,hB⟩
 ·obtain⟨o',cap,hv,Bq,hA,hA0,hc⟩:=hr;have:=hc _ kk ns hb rfl;exact⟨⟨o',cap,hv,Bq,hA,hA0,this⟩,hB⟩
theorem aEJ{y:A}{d:D}(h:toD hp y=some d):Dy d=false:=by
 unfold toD at h;split at h
 ·cases h;rfl
 ·cases h;rfl
 ·cases h;rfl
 ·split at h
  ·cases h;rfl
  ·split at h
   ·cases h;rfl
   ·cases h
  ·cases h
 ·split at h
  ·cases h;rfl
  ·cases h
 ·cases h
theorem Mn{Y:Nat->Prop}{w:World}{g:Nat->Nat}{i:Nat}{v:Value}{d:D}(hn:Dy d=false)(h:lL Y w d v):aEI Y w g i v d:=by
 cases d with
 |io=>cases hn
 |s x=>exact h
 |rows a b c=>exact h
 |agg cs=>exact h
 |own a b c=>exact h
 |back=>exact h
theorem aCT{gid:Nat->Nat}:∀{us:List (Nat×Nat)} {q:Nat×Nat},(∀q∈us,gid q.1=q.2)->q∈us->idAt us q.1=gid q.1
 | [],q,_,h=>by cases h
 |q0 :: us,q,hg,h=>by
  simp only[idAt];cases hb:bVP q0.1 q.1 with
  |true =>
   rw[cond_true,<-bWD hb];exact(hg q0 (bVV ..)).symm
  |false =>
   rw[cond_false];rcases List.mem_cons.1 h with rfl |h
   ·rw[Nat.beq_refl]at hb;cases hb
   ·exact aCT (fun q hq=>hg q (bVZ _ hq)) h
theorem Yt{us:List (Nat×Nat)}{d:D}{e:TypeId}{k:IntKind}{ns:List Int}(h:reBack us d=.own e k ns):d=.own e k ns:=by
 cases d <;> first |exact h |cases h
theorem eff_callIO(h:iU E X w0 ρ al fr hp a w)(hd:iT E.nt o=true)(hC:jR P E)(vI:∀j,j<8->¬al (id+j)){f:FuncId}{fo:Operand}(hf:a.eval fo=.func (.func f) #[] #[]){args:List Operand}{wY:Array TypeId}(ho:o.op=.call ⟨.value fo,args.toArray,wY⟩){p:Nat}{ps:List Nat}(Lj:E.ioF f=p :: ps)
  (he:callIO E (p :: ps) id (keepOf E o) f (args.map (evA E fr)) hp (fun a u=>some (a,u))=some (x,u)):Mr P E X w0 al fr hp a w o id x u:=by
 simp only[callIO,Dp]at he;generalize keepOf E o=keep at he;split at he
 ·cases he
 ·rename_i us ds aZE;cases aQQ:leqN (us.map (·.1)) (p :: ps)&&(nodup (us.map (·.2))&&Of (us.map (·.2)) (oT (p :: ps) 0 (args.map (evA E fr))))with
  |false=>rw[aQQ]at he;cases he
  |true =>
  rw[aQQ]at he;simp only[cond_true]at he;simp only[bVU]at aQQ;obtain⟨aWM,aVV,bJJ⟩:=aQQ;have Gf:us.map (·.1)=p :: ps:=aCP aWM;split at he
  ·cases he
  ·rename_i gd rs bBH;obtain⟨aZB,he⟩:=Lr he;obtain⟨Fp,js,rfl,aLF,Ln⟩:=hC.i f p ps ds gd rs Lj bBH aZB;have bEV:us.length=(p :: ps).length:=by rw[<-Gf];simp
   have aFL:(Fp ++ js).length-us.length=Fp.length:=by rw[bWS,aLF.len,bEV];omega
   rw[aFL]at he;rw[bXF,bYG]at he;cases aDE:bVR us.length (Fp ++ js).length&&bVR (Fp ++ js).length 8&&!(Fp.any shares)with
   |false=>rw[aDE]at he;cases he
   |true =>
   rw[aDE]at he;simp only[cond_true]at he;simp only[bVU,bWY]at aDE;obtain⟨⟨_,bSB⟩,bBR⟩:=aDE;have Vr:Fp.length<=8:=by have:=bXM bSB;rw[bWS]at this;omega
   split at he
   ·cases he
   ·rename_i ub bMR;obtain⟨⟨gid,aLA⟩,bRB,aZG,bJG⟩:=Ac _ _ _ _ _ _ aZE;obtain⟨bBB,bBA⟩:=Ho _ _ _ bMR;rw[bXC]at aZG;obtain⟨U,hU⟩:∃U:pS,U=(oT (p :: ps) 0 (args.map (evA E fr))).map fun i=>(i,none):=⟨_,rfl⟩
    have aOJ:Cons U:=by rw[hU];intro q hq;obtain⟨i,_,rfl⟩:=List.mem_map.1 hq;rfl
    have bTR:U.map (·.1)=oT (p :: ps) 0 (args.map (evA E fr)):=by rw[hU,List.map_map];exact List.map_id _
    have Ia:∀q∈us,∃e kk ns off n,hp q.2=some ⟨e,.ints kk ns⟩/\ds[q.1]?=some (.io e kk ns off n):=by
     intro q hq;obtain⟨y,d,h1,_,h2,h3⟩:=bRB q hq;obtain⟨e,kk,ns,off,n,rfl,h4,_⟩:=Fg h2;exact⟨e,kk,ns,off,n,h4,by simpa using h3⟩
    have aVN:∀q∈us,applyUps U hp q.2=hp q.2:=fun q hq=>rB (by rw[bTR];exact aMJ bJJ (List.mem_map.2 ⟨q,hq,rfl⟩))
    have qI:∀i,i∈p :: ps->∃q∈us,q.1=i/\gid i=q.2:=by
     intro i hi;rw[<-Gf]at hi;obtain⟨q,hq,rfl⟩:=List.mem_map.1 hi;exact⟨q,hq,rfl,(aLA q hq).2⟩
    have hY:∀b,XO X ρ (applyUps U hp) b->b<w.heap.size:=by
     rintro b (hb |⟨i,bl,h1,h2⟩)
     ·have:=Old.Va (h.x0 b hb);have:=h.below.size;omega
     ·have:=h.iV (iB aOJ h1);omega
    have hG:GlobOk E.glob (XO X ρ (applyUps U hp)) w:=by
     intro g k ns hg;obtain⟨h1,h2,h3⟩:=h.Sc g k ns hg;exact⟨h1,fun ho=>h2 (ho.imp (fun h=>h) (Own.of_cons aOJ)),h3.later (iA.cons aOJ)⟩
    obtain⟨g0,hg0⟩:∃g0:Nat->Nat,g0=fun i=>ρ (gid i):=⟨_,rfl⟩
    have aTV:∀b,Ct (p :: ps) g0 b->∃q∈us,ρ q.2=b:=by
     rintro b ⟨i,hi,rfl⟩;obtain⟨q,hq,_,h2⟩:=qI i hi;exact⟨q,hq,by rw[hg0];simp only;rw[h2]⟩
    have aLG:=aLF.run (XO X ρ (applyUps U hp)) w (args.map a.eval) g0 hY hG (by simp[aZG]) (fun i d v hi hv=>by
     obtain⟨y,aKL,aVJ⟩:=bJG i d hi;simp only[bVS,bWQ]at aKL hv;obtain⟨z,hz,rfl⟩:=aKL;obtain⟨z',bAV,rfl⟩:=hv;rw[hz]at bAV;cases bAV;have iP:=h.ev z;rcases aVJ with ⟨k,h1,h2⟩ |⟨h1,h2⟩
     ·rw[bVQ]at h2;obtain⟨e,kk,ns,off,n,rfl,h4,_⟩:=Fg h1;have e1:g0 i=ρ k:=by rw[hg0];simp only;rw[(aLA _ h2).2]
      refine⟨by rw[e1];exact .inr ⟨k,_,(aVN _ h2).trans h4,rfl⟩,by rw[e1];exact Yh h iP.1 h1⟩
     ·refine Mn (aEJ h1) (Fh h aOJ iP.1 (fun i hi=>?_) h1);rw[hU];exact List.mem_map.2 ⟨i,h2 i hi,rfl⟩) (fun i j hi hj heq=>by
     obtain⟨q,hq,rfl,h1⟩:=qI i hi;obtain⟨q',aCW,rfl,h2⟩:=qI j hj;rw[hg0]at heq;simp only[h1,h2]at heq;obtain⟨e1,k1,n1,o1,m1,tY,_⟩:=Ia q hq;obtain⟨e2,k2,n2,o2,m2,aDG,_⟩:=Ia q' aCW;have h3:=h.inj _ _ _ _ tY aDG heq;obtain⟨a1,aQU⟩:=bWO hq;obtain⟨a2,bCZ⟩:=bWO aCW;have:=Fx aVV aQU bCZ h3;subst this;rw[aQU]at bCZ;cases bCZ;rfl)
    have gF:(execOp a.eval o).run P w=.ok (.enter f (args.map a.eval).toArray) w:=by
     unfold execOp;rw[ho];simp only[resolve,hf,Deferred.ofValue,Sem.run_bind,Sem.run_pure,Result.andThen_ok,invoke];rw[<-Ln];congr 1;simp
    intro next Q hn;unfold Oper.wp;rw[gF];simp only[Oper.upon_enter];refine aLG.mono ?_;rintro e w' ⟨tK,rfl,aWS,⟨g,aKY,aKZ,aHG⟩,aDF⟩;simp only;obtain⟨Rb,aKQ⟩:∃Rb,Rb=Fp.map (reBack us):=⟨_,rfl⟩;rw[<-aKQ]at he;have aTL:Rb.length=Fp.length:=by rw[aKQ];simp
    have bKQ:∀{i:Nat} {e:TypeId} {k:IntKind} {ns:List Int},Rb[i]?=some (.own e k ns)->Fp[i]?=some (.own e k ns):=by
     intro i e k ns hi;rw[aKQ,bVS]at hi;obtain⟨d,h1,h2⟩:=Option.map_eq_some_iff.1 hi;rw[h1,Yt h2]
    obtain⟨zS,aWC⟩:∃zS,zS=applyUps ub hp:=⟨_,rfl⟩;obtain⟨vQ,Rw⟩:∃vQ,vQ=applyUps (takeAll keep id Rb).2 zS:=⟨_,rfl⟩;obtain⟨ρ2,Eb⟩:∃ρ2:Nat->Nat,ρ2=fun j=>if id<=j/\j<id+8 then g (j-id)else ρ j:=⟨_,rfl⟩
    have yS:∀i,al i->¬(id<=i/\i<id+8):=fun i hi hr=>vI (i-id) (by omega) (by rw[show id+(i-id)=i by omega];exact hi)
    have uO:∀j,vQ j=match (if id<=j then Rb[j-id]? else none)with
      |some (.own e k ns)=>if keep=true then some ⟨e,.ints k ns⟩else zS j
      |_=>zS j:=fun j=>by rw[Rw];exact takeAll_ups keep Rb id _ j
    have bHV:nodup (ub.map (·.1))=true:=by rw[bBB];exact aVV
    have bCG:∀q∈us,∃(e:TypeId) (k:IntKind) (ns:List Int) (j:Nat),zS q.2=some ⟨e,.ints k ns⟩/\us[j]?=some q/\∃(o n:Nat),js[j]?=some (D.io e k ns o n):=by
     intro q hq;obtain⟨j,hj⟩:=bWO hq;obtain⟨e,k,ns,o,n,h1,h2⟩:=bBA j q hj;exact⟨e,k,ns,j,by rw[aWC];exact Hp bHV h2,hj,o,n,h1⟩
    have aKU:∀j,j ∉ us.map (·.2)->zS j=hp j:=fun j hj=>by rw[aWC];exact rB (by rw[bBB];exact hj)
    have bJW:∀j b,zS j=some b->al j:=by
     intro j b hb
     by_cases hj:j∈us.map (·.2)
     ·obtain⟨q,hq,rfl⟩:=List.mem_map.1 hj;obtain⟨e,kk,ns,off,n,h1,_⟩:=Ia q hq;exact h.alh _ _ h1
     ·rw[aKU j hj]at hb;exact h.alh _ _ hb
    have bBZ:∀j b,zS j=some b->ρ j<w.heap.size:=by
     intro j b hb
     by_cases hj:j∈us.map (·.2)
     ·obtain⟨q,hq,rfl⟩:=List.mem_map.1 hj;obtain⟨e,kk,ns,off,n,h1,_⟩:=Ia q hq;exact h.iV h1
     ·rw[aKU j hj]at hb;exact h.iV hb
    have Vo:∀j,¬al j->zS j=none:=by
     intro j hj;cases hq:zS j with
     |none=>rfl
     |some b=>exact absurd (bJW j b hq) hj
    have sR:∀j b,vQ j=some b->¬al j->∃e k ns,id<=j/\Rb[j-id]?=some (.own e k ns)/\keep=true/\b=⟨e,.ints k ns⟩:=by
     intro j b hj qW;rw[uO]at hj;split at hj
     ·rename_i e k ns hq;split at hj
      ·rename_i hk;cases hj;split at hq
       ·exact⟨e,k,ns,‹_›,hq,hk,rfl⟩
       ·cases hq
      ·rw[Vo j qW]at hj;cases hj
     ·rw[Vo j qW]at hj;cases hj
    have aKP:∀i,al i->vQ i=zS i:=by
     intro i hi;rw[uO];split
     ·rename_i e k ns hq;split at hq
      ·exact absurd ⟨‹_›,by have:=aT hq;omega⟩ (yS i hi)
      ·cases hq
     ·rfl
    have Sa:=h.aNA (ρ':=ρ2) (hp':=vQ) (al':=nS al id) aWS (fun b hb=>by
      obtain⟨q,hq,rfl⟩:=aTV b hb;obtain⟨e,kk,ns,off,n,h1,_⟩:=Ia q hq;exact⟨q.2,_,h1,rfl⟩) (fun _ h=>.inl h)
     (fun i hi=>by rw[Eb];simp only;rw[if_neg (yS i hi)])
     (fun i b' hi hb=>by
      rw[aKP i hi]at hb
      by_cases hj:i∈us.map (·.2)
      ·obtain⟨q,hq,rfl⟩:=List.mem_map.1 hj;obtain⟨e,kk,ns,off,n,h1,h2⟩:=Ia q hq;obtain⟨e',k',mZ,j,h3,h4,o,m,h5⟩:=bCG q hq;rw[h3]at hb;cases hb;have bFE:(p :: ps)[j]?=some q.1:=by rw[<-Gf];simp[h4]
       obtain⟨e1,k1,n1,o1,m1,e2,k2,n2,h6,h7,h8⟩:=aLF.io j q.1 bFE;rw[h2]at h6;cases h6;rw[h5]at h7;cases h7;have bCW:Tu w' (g0 q.1) (D.io e' k' mZ 0 0):=aDF j q.1 _ bFE h5;have e0:g0 q.1=ρ q.2:=by rw[hg0];simp only;rw[(aLA q hq).2]
       rw[e0]at bCW;refine .inr ⟨⟨q.1,by rw[<-Gf];exact List.mem_map.2 ⟨q,hq,rfl⟩,e0⟩,_,h1,⟨fun k ns he=>?_,fun cs he=>by cases he⟩,fun Y=>bCW⟩;cases he;exact⟨_,_,rfl,h8.symm⟩
      ·rw[aKU i hj]at hb;refine .inl ⟨fun hm=>?_,hb⟩;obtain⟨q,hq,h1⟩:=aTV _ hm;obtain⟨e,kk,ns,off,n,h2,_⟩:=Ia q hq;have:=h.inj _ _ _ _ h2 hb h1;subst this;exact hj (List.mem_map.2 ⟨q,hq,rfl⟩))
     (fun j b hj qW=>by
      obtain⟨e,k,ns,h1,h2,h3,rfl⟩:=sR j b hj qW;have jB:=aT h2;obtain⟨v,hv⟩:=bB (l:=tK) (i:=j-id) (by omega);obtain⟨arr,cap,_,Ca,hw,h4,aWU,h5,h6⟩:=aHG (j-id) _ v (bKQ h2) hv;have e1:ρ2 j=g (j-id):=by rw[Eb];simp only;rw[if_pos ⟨h1,by omega⟩]
      exact⟨.inr ⟨h1,by omega⟩,by rw[e1];exact Ca,fun Y=>⟨arr,by rw[e1];exact hw,bWK h4 aWU,h6⟩⟩)
     (fun i j b c hi hj bJY bJX e=>by
      obtain⟨e1,k1,Xq,h1,h2,h3,_⟩:=sR i b hi bJY;obtain⟨e2,k2,bQC,h4,h5,h6,_⟩:=sR j c hj bJX;have l1:=aT h2;have l2:=aT h5;rw[Eb]at e;simp only at e;rw[if_pos ⟨h1,by omega⟩,if_pos ⟨h4,by omega⟩]at e;have:=aKZ _ _ _ _ (bKQ h2) (bKQ h5) rfl rfl e;omega)
    obtain⟨Zg,bIT⟩:=Sa;have bIB:∀{i:Nat} {d:D},Fp[i]?=some d->shares d=false:=by
     intro i d hi;cases hs:shares d with
     |false=>rfl
     |true =>
      have:Fp.any shares=true:=List.any_eq_true.2 ⟨d,bVX hi,hs⟩;rw[this]at bBR;cases bBR
    have Ru:∀(i:Nat) (d:D) (v:Value),Fp[i]?=some d->tK[i]?=some v->Ew ρ2 vQ (XO X ρ2 vQ) w' (takeIn keep (id+i) (reBack us d)).1 v/\∀j∈refsV (takeIn keep (id+i) (reBack us d)).1,nS al id j:=by
     intro i d v hi hv;have bJB:Rb[i]?=some (reBack us d):=by rw[aKQ,bVS,hi];rfl
     have hg:=aHG i d v hi hv;have bSN:=aT hi;have aQI:=bIB hi;cases d with
     |own e k ns =>
      obtain⟨arr,cap,rfl,Ca,hw,h4,aWU,h5,h6⟩:=hg;have bIL:¬X (g i):=fun hx=>by have:=Old.Va (h.x0 _ hx);have:=h.below.size;omega
      cases keep with
      |true =>
       have e1:ρ2 (id+i)=g i:=by rw[Eb];simp only;rw[if_pos ⟨by omega,by omega⟩];congr 1;omega
       refine⟨⟨cap,by rw[e1],h4,fun blk k1 Xq hb hk=>?_,fun blk cs hb hk=>?_⟩,fun j hj=>?_⟩
       rotate_left
       ·rw[uO,aU,show id+i-id=i by omega,bJB]at hb;simp only[reBack,if_true]at hb;cases hb;cases hk
       rotate_left
       ·rw[uO,aU,show id+i-id=i by omega,bJB]at hb;simp only[reBack,if_true]at hb;cases hb;cases hk;exact⟨rfl,h5,by rw[e1];unfold lA;rw[hw];exact aWU⟩
       ·simp only[reBack,takeIn,cond_true,refsV,refsL,bWG]at hj;subst hj;exact .inr ⟨by omega,by omega⟩
      |false =>
       refine⟨⟨_,cap,rfl,h4,fun j n hj=>⟨g i,0,rfl,(Array.getElem?_eq_some_iff.1 hw).1,?_,?_⟩⟩,fun j hj=>by simp[reBack,takeIn,refsV,refsL]at hj⟩
       ·rintro (hx |⟨j',bl,h7,h8⟩)
        ·exact bIL hx
        ·by_cases Ny:al j'
         ·rw[aKP j' Ny]at h7;have:=bBZ _ _ h7;have e2:ρ2 j'=ρ j':=by rw[Eb];simp only;rw[if_neg (yS j' Ny)]
          omega
         ·obtain⟨_,_,_,_,_,hk,_⟩:=sR j' bl h7 Ny;cases hk
       ·rw[bVQ,cell_of_row w' (g i) j arr e (0,0) hw];exact h6 j n hj
     |s x=>exact⟨lL.any (d:=.s x) aQI rfl hg,fun j hj=>by simp[reBack,takeIn,refsV,refsL]at hj⟩
     |rows sz n f=>cases aQI
     |agg cs=>exact⟨lL.any (d:=.agg cs) aQI rfl hg,fun j hj=>by simp[reBack,takeIn,refsV]at hj⟩
     |io=>cases aQI
     |back p0 off n =>
      obtain⟨j,e,k,ns,h1,h2,h3⟩:=hg;obtain⟨q,hq,rfl,h4⟩:=qI p0 (bVX h1);have bIZ:idAt us q.1=q.2:=(aCT (fun q hq=>(aLA q hq).2) hq).trans h4;obtain⟨e0,kk,ns0,off0,n0,hb0,_⟩:=Ia q hq;have aWP:=h.alh _ _ hb0;have e1:ρ2 q.2=g0 q.1:=by rw[Eb,hg0];simp only;rw[if_neg (yS _ aWP),h4]
      obtain⟨o',cap,h5,h6,h7,h8,h9,bOK,bUM⟩:=h3;simp only[reBack,bIZ,takeIn];refine⟨⟨o',cap,by rw[e1];exact h5,h6,h7,h8,fun blk k1 Xq hb hk=>?_⟩,fun j hj=>?_⟩
      ·rw[aKP _ aWP]at hb;obtain⟨e',k',mZ,j',bUL,bUK,o,m,bUJ⟩:=bCG q hq;rw[bUL]at hb;cases hb;cases hk;have bFE:(p :: ps)[j']?=some q.1:=by rw[<-Gf];simp[bUK]
       have bSI:j=j':=by
        have f1:((us.map (·.1)).map gid)[j]?=some q.2:=by rw[Gf,bVS,h1];simp[h4]
        have f2:((us.map (·.1)).map gid)[j']?=some q.2:=by rw[Gf,bVS,bFE];simp[h4]
        have f3:(us.map (·.1)).map gid=us.map (·.2):=by
         rw[List.map_map];exact bWZ fun q hq=>(aLA q hq).2
        have bBT:nodup ((us.map (·.2)).map fun x=>x)=true:=by rw[List.map_id'];exact aVV
        rw[f3]at f1 f2;exact Fx bBT f1 f2 rfl
       subst bSI;rw[bUJ]at h2;cases h2;exact⟨h9,bOK,by rw[e1];exact bUM⟩
      ·simp only[refsV,refsL,bWG]at hj;subst hj;exact .inl aWP
    have Hl:(takeAll keep id Rb).1.length=tK.length:=by rw[yY,aTL];exact aKY
    have hval:∀(i:Nat) (y:V) (v:Value),(takeAll keep id Rb).1[i]?=some y->tK[i]?=some v->Ew ρ2 vQ (XO X ρ2 vQ) w' y v/\∀j∈refsV y,nS al id j:=by
     intro i y v hy hv;obtain⟨d,yV⟩:=bB (l:=Fp) (i:=i) (by have:=aT hv;omega);rw[yZ keep Rb id i (reBack us d) (by rw[aKQ,bVS,yV];rfl)]at hy;cases hy;exact Ru i d v yV hv
    have oX:∀(y:A),wA ρ2 vQ (XO X ρ2 vQ) w' y (resV tK)->(∀j∈refs y,nS al id j)->some (y,ub ++ (takeAll keep id Rb).2)=some (x,u)->next (a.put o.dst (resV tK)) w':=by
     intro y hy bHN heq;obtain⟨e1,e2⟩:=Prod.mk.inj (Option.some.inj heq);refine hn ρ2 (resV tK) w' ?_;rw[<-e1,<-e2,kR,<-aWC,<-Rw];exact Zg.pure hd hy bHN
    match aQF:tK,Hl,hval,oX with
    | [v],Hl,hval,oX =>
     match ht:(takeAll keep id Rb).1,Hl with
     | [y],_ =>
      rw[ht]at he hval;obtain⟨h1,h2⟩:=hval 0 y v rfl rfl;exact oX (.v y) h1 h2 he
    | [],Hl,hval,oX =>
     match ht:(takeAll keep id Rb).1,Hl with
     | [],_ =>
      rw[ht]at he;exact oX (.Jp []) ⟨#[],rfl,rfl,fun i y v hy=>by simp at hy⟩ (by simp[refs]) he
    |v1 :: v2 :: vr,Hl,hval,oX =>
     match ht:(takeAll keep id Rb).1,Hl with
     |y1 :: y2 :: yr,Hl =>
      rw[ht]at he hval;refine oX (.Jp (y1 :: y2 :: yr)) ⟨(v1 :: v2 :: vr).toArray,rfl,by simpa using Hl,fun i y v hy hv=>(hval i y v hy (by simpa using hv)).1⟩ ?_ he;intro j hj;obtain⟨y,hy,hj⟩:=List.mem_flatMap.1 hj;obtain⟨i,hi⟩:=bWO hy;obtain⟨v,hv⟩:=bB (l:=v1 :: v2 :: vr) (i:=i) (by have:=aT hi;omega);exact(hval i y v hi hv).2 j hj
theorem Pt(h:iU E X w0 ρ al fr hp a w)(hd:iT E.nt o=true)(hC:jR P E)(vI:∀j,j<8->¬al (id+j)){f:FuncId}{keep:Bool}{as:List A}{vals:List Value}(qW:as.length=vals.length)
  (bTK:∀(i:Nat) (y:A) (v:Value),as[i]?=some y->vals[i]?=some v->wA ρ hp (XO X ρ hp) w y v) (gF:oG P f->(execOp a.eval o).run P w=.ok (.enter f vals.toArray) w)
  (bIX:E.ioF f=[]) (he:callK E id keep f as hp (fun a u=>some (a,u))=some (x,u)):Mr P E X w0 al fr hp a w o id x u:=by
 simp only[callK,Dp]at he;split at he
 ·cases he
 ·rename_i ds aZE;split at he
  ·cases he
  ·rename_i gd rs bBH;obtain⟨aZB,he⟩:=Lr he;cases Vr:bVR rs.length 8 with
   |false=>rw[Vr]at he;cases he
   |true =>
   rw[Vr]at he;simp only[cond_true]at he;have Vr:rs.length<=8:=bXM Vr;obtain⟨aLF,Ln⟩:=hC.c f ds gd rs bIX bBH aZB;obtain⟨U,hU⟩:∃U,U=aAI as:=⟨_,rfl⟩;have aOJ:Cons U:=by rw[hU];exact Xa _
   have hY:∀b,XO X ρ (applyUps U hp) b->b<w.heap.size:=by
    rintro b (hb |⟨i,bl,h1,h2⟩)
    ·have:=Old.Va (h.x0 b hb);have:=h.below.size;omega
    ·have:=h.iV (iB aOJ h1);omega
   have hG:GlobOk E.glob (XO X ρ (applyUps U hp)) w:=by
    intro g k ns hg;obtain⟨h1,h2,h3⟩:=h.Sc g k ns hg;exact⟨h1,fun ho=>h2 (ho.imp (fun h=>h) (Own.of_cons aOJ)),h3.later (iA.cons aOJ)⟩
   have aZG:ds.length=vals.length:=by have:=zL aZE;omega
   have aLG:=aLF (XO X ρ (applyUps U hp)) w vals hY hG aZG (fun i d v hi hv=>by
    obtain⟨y,aKL,aVJ⟩:=Vg aZE i d hi;refine Fh h aOJ (bTK i y v aKL hv) (fun i hi=>?_) aVJ;rw[hU];exact Za (bVX aKL) hi)
   have gF:=gF Ln;intro next Q hn;unfold Oper.wp;rw[gF];simp only[Oper.upon_enter];refine aLG.mono ?_;rintro e w' ⟨tK,rfl,aWS,g,aKY,aKZ,aHG⟩;simp only;obtain⟨U',bNY,bTQ⟩:∃U',Cons U'/\(bif rs.any shares then(List.flatMap refs as).map fun i=>((i,none):Nat×Option jT)else [])=U'/\(∀i,i∈U'.map (·.1)->i∈U.map (·.1)):=by
    cases bIC:rs.any shares with
    |true=>exact⟨U,aOJ,by rw[hU];rfl,fun _ h=>h⟩
    |false=>exact⟨[],(fun p hp=>by cases hp),rfl,fun i hi=>by cases hi⟩
   obtain⟨aWQ,hUsub⟩:=bTQ;rw[aWQ]at he;have h0:=h.cons bNY;obtain⟨vQ,Rw⟩:∃vQ,vQ=applyUps (takeAll keep id rs).2 (applyUps U' hp):=⟨_,rfl⟩;obtain⟨ρ2,Eb⟩:∃ρ2:Nat->Nat,ρ2=fun j=>if id<=j/\j<id+8 then g (j-id)else ρ j:=⟨_,rfl⟩
   have yS:∀i,al i->¬(id<=i/\i<id+8):=fun i hi hr=>vI (i-id) (by omega) (by rw[show id+(i-id)=i by omega];exact hi)
   have uO:∀j,vQ j=match (if id<=j then rs[j-id]? else none)with
     |some (.own e k ns)=>if keep=true then some ⟨e,.ints k ns⟩else applyUps U' hp j
     |_=>applyUps U' hp j:=fun j=>by rw[Rw];exact takeAll_ups keep rs id _ j
   have Vo:∀j,¬al j->applyUps U' hp j=none:=by
    intro j hj;cases hq:applyUps U' hp j with
    |none=>rfl
    |some b=>exact absurd (h0.alh j b hq) hj
   have sR:∀j b,vQ j=some b->¬al j->∃e k ns,id<=j/\rs[j-id]?=some (.own e k ns)/\keep=true/\b=⟨e,.ints k ns⟩:=by
    intro j b hj qW;rw[uO]at hj;split at hj
    ·rename_i e k ns hq;split at hj
     ·rename_i hk;cases hj;split at hq
      ·exact⟨e,k,ns,‹_›,hq,hk,rfl⟩
      ·cases hq
     ·rw[Vo j qW]at hj;cases hj
    ·rw[Vo j qW]at hj;cases hj
   have Sa:=h0.called (ρ':=ρ2) (hp':=vQ) (al':=nS al id) aWS (fun _ h=>.inl h)
    (fun i hi=>by
     refine⟨by rw[Eb];simp only;rw[if_neg (yS i hi)],?_⟩;rw[uO];split
     ·rename_i e k ns hq;split at hq
      ·exact absurd ⟨‹_›,by have:=aT hq;omega⟩ (yS i hi)
      ·cases hq
     ·rfl)
    (fun j b hj qW=>by
     obtain⟨e,k,ns,h1,h2,h3,rfl⟩:=sR j b hj qW;have jB:=aT h2;obtain⟨v,hv⟩:=bB (l:=tK) (i:=j-id) (by omega);obtain⟨arr,cap,_,Ca,hw,h4,aWU,h5,h6⟩:=aHG (j-id) _ v h2 hv;have e1:ρ2 j=g (j-id):=by rw[Eb];simp only;rw[if_pos ⟨h1,by omega⟩]
     exact⟨.inr ⟨h1,by omega⟩,by rw[e1];exact Ca,fun Y=>⟨arr,by rw[e1];exact hw,bWK h4 aWU,h6⟩⟩)
    (fun i j b c hi hj bJY bJX e=>by
     obtain⟨e1,k1,Xq,h1,h2,h3,_⟩:=sR i b hi bJY;obtain⟨e2,k2,bQC,h4,h5,h6,_⟩:=sR j c hj bJX;have l1:=aT h2;have l2:=aT h5;rw[Eb]at e;simp only at e;rw[if_pos ⟨h1,by omega⟩,if_pos ⟨h4,by omega⟩]at e;have:=aKZ _ _ _ _ h2 h5 rfl rfl e;omega)
   obtain⟨Zg,bIT⟩:=Sa;have aWI:∀{i:Nat} (d:D) (v:Value),rs[i]?=some d->kB d=false->lL (fun b=>XO X ρ (applyUps U hp) b\/∃(j:Nat) (d':D),rs[j]?=some d'/\kB d'=true/\g j=b) w' d v->lL (XO X ρ2 vQ) w' d v:=by
    intro i d v hi ho hr;cases bIC:shares d with
    |false=>exact hr.any bIC ho
    |true =>
     have Ed:rs.any shares=true:=List.any_eq_true.2 ⟨d,bVX hi,bIC⟩;have bTS:U'=U:=by
      rw[Ed]at aWQ;rw[<-aWQ,hU];rfl
     refine hr.later ⟨bVO _,fun b _ hx=>⟨rfl,fun hb=>hx ?_⟩⟩;rcases hb with hb |⟨j,bl,h7,h8⟩
     ·exact .inl (.inl hb)
     ·by_cases Ny:al j
      ·have h9:applyUps U' hp j=some bl:=by
        rw[<-h7,uO];split
        ·rename_i e k ns hq;split at hq
         ·exact absurd ⟨‹_›,by have:=aT hq;omega⟩ (yS j Ny)
         ·cases hq
        ·rfl
       have e2:ρ2 j=ρ j:=by rw[Eb];simp only;rw[if_neg (yS j Ny)]
       exact .inl (.inr ⟨j,bl,by rw[<-bTS];exact h9,by rw[<-e2];exact h8⟩)
      ·obtain⟨e,k,ns,h1,h2,h3,rfl⟩:=sR j bl h7 Ny;have jB:=aT h2;refine .inr ⟨j-id,_,h2,rfl,?_⟩;rw[Eb]at h8;simp only at h8;rw[if_pos ⟨h1,by omega⟩]at h8;exact h8
   have Ru:∀(i:Nat) (d:D) (v:Value),rs[i]?=some d->tK[i]?=some v->Ew ρ2 vQ (XO X ρ2 vQ) w' (takeIn keep (id+i) d).1 v/\∀j∈refsV (takeIn keep (id+i) d).1,nS al id j:=by
    intro i d v hi hv;have hg:=aHG i d v hi hv;have bSN:=aT hi;cases d with
    |own e k ns =>
     obtain⟨arr,cap,rfl,Ca,hw,h4,aWU,h5,h6⟩:=hg;have bIL:¬X (g i):=fun hx=>by have:=Old.Va (h.x0 _ hx);have:=h.below.size;omega
     cases keep with
     |true =>
      have e1:ρ2 (id+i)=g i:=by rw[Eb];simp only;rw[if_pos ⟨by omega,by omega⟩];congr 1;omega
      refine⟨⟨cap,by rw[e1],h4,fun blk k1 Xq hb hk=>?_,fun blk cs hb hk=>?_⟩,fun j hj=>?_⟩
      rotate_left
      ·rw[uO,aU,show id+i-id=i by omega,hi]at hb;simp only[if_true]at hb;cases hb;cases hk
      rotate_left
      ·rw[uO,aU,show id+i-id=i by omega,hi]at hb;simp only[if_true]at hb;cases hb;cases hk;exact⟨rfl,h5,by rw[e1];unfold lA;rw[hw];exact aWU⟩
      ·simp only[takeIn,cond_true,refsV,refsL,bWG]at hj;subst hj;exact .inr ⟨by omega,by omega⟩
     |false =>
      refine⟨⟨_,cap,rfl,h4,fun j n hj=>⟨g i,0,rfl,(Array.getElem?_eq_some_iff.1 hw).1,?_,?_⟩⟩,fun j hj=>by simp[takeIn,refsV,refsL]at hj⟩
      ·rintro (hx |⟨j',bl,h7,h8⟩)
       ·exact bIL hx
       ·by_cases Ny:al j'
        ·have:vQ j'=applyUps U' hp j':=by
          rw[uO];split
          ·simp
          ·rfl
         rw[this]at h7;have:=h0.iV h7;have e2:ρ2 j'=ρ j':=by rw[Eb];simp only;rw[if_neg (yS j' Ny)]
         omega
        ·obtain⟨_,_,_,_,_,hk,_⟩:=sR j' bl h7 Ny;cases hk
      ·rw[bVQ,cell_of_row w' (g i) j arr e (0,0) hw];exact h6 j n hj
    |s x=>exact⟨aWI _ v hi rfl hg,fun j hj=>by simp[takeIn,refsV,refsL]at hj⟩
    |rows sz n f=>exact⟨aWI _ v hi rfl hg,fun j hj=>by simp[takeIn,refsV,refsL]at hj⟩
    |agg cs=>exact⟨aWI _ v hi rfl hg,fun j hj=>by simp[takeIn,refsV]at hj⟩
    |io=>exact hg.elim
    |back=>exact hg.elim
   have Hl:(takeAll keep id rs).1.length=tK.length:=by rw[yY];exact aKY
   have hval:∀(i:Nat) (y:V) (v:Value),(takeAll keep id rs).1[i]?=some y->tK[i]?=some v->Ew ρ2 vQ (XO X ρ2 vQ) w' y v/\∀j∈refsV y,nS al id j:=by
    intro i y v hy hv;obtain⟨d,yV⟩:=bB (l:=rs) (i:=i) (by have:=aT hv;omega);rw[yZ keep rs id i d yV]at hy;cases hy;exact Ru i d v yV hv
   have oX:∀(y:A),wA ρ2 vQ (XO X ρ2 vQ) w' y (resV tK)->(∀j∈refs y,nS al id j)->some (y,U' ++ (takeAll keep id rs).2)=some (x,u)->next (a.put o.dst (resV tK)) w':=by
    intro y hy bHN heq;obtain⟨e1,e2⟩:=Prod.mk.inj (Option.some.inj heq);refine hn ρ2 (resV tK) w' ?_;rw[<-e1,<-e2,kR,<-Rw];exact Zg.pure hd hy bHN
   match aQF:tK,Hl,hval,oX with
   | [v],Hl,hval,oX =>
    match ht:(takeAll keep id rs).1,Hl with
    | [y],_ =>
     rw[ht]at he hval;obtain⟨h1,h2⟩:=hval 0 y v rfl rfl;exact oX (.v y) h1 h2 he
   | [],Hl,hval,oX =>
    match ht:(takeAll keep id rs).1,Hl with
    | [],_ =>
     rw[ht]at he;exact oX (.Jp []) ⟨#[],rfl,rfl,fun i y v hy=>by simp at hy⟩ (by simp[refs]) he
   |v1 :: v2 :: vr,Hl,hval,oX =>
    match ht:(takeAll keep id rs).1,Hl with
    |y1 :: y2 :: yr,Hl =>
     rw[ht]at he hval;refine oX (.Jp (y1 :: y2 :: yr)) ⟨(v1 :: v2 :: vr).toArray,rfl,by simpa using Hl,fun i y v hy hv=>(hval i y v hy (by simpa using hv)).1⟩ ?_ he;intro j hj;obtain⟨y,hy,hj⟩:=List.mem_flatMap.1 hj;obtain⟨i,hi⟩:=bWO hy;obtain⟨v,hv⟩:=bB (l:=v1 :: v2 :: vr) (i:=i) (by have:=aT hi;omega);exact(hval i y v hi hv).2 j hj
theorem aMF(h:iU E X w0 ρ al fr hp a w)(hd:iT E.nt o=true)(hC:jR P E)(vI:∀j,j<8->¬al (id+j)){fo:Operand}{args:Array Operand}{wY:Array TypeId}(ho:o.op=.call ⟨.value fo,args,wY⟩)(he:pV E id o (evA E fr) hp=some (x,u)):Mr P E X w0 al fr hp a w o id x u:=by
 obtain⟨args⟩:=args;have hargs:∀(i:Nat) (y:A) (v:Value),(args.map (evA E fr))[i]?=some y->(args.map a.eval)[i]?=some v->wA ρ hp (XO X ρ hp) w y v:=by
  intro i y v hy hv;simp only[bVS,bWQ]at hy hv;obtain⟨z,hz,rfl⟩:=hy;obtain⟨z',bAV,rfl⟩:=hv;rw[hz]at bAV;cases bAV;exact(h.ev z).1
 unfold pV effK at he;rw[ho]at he;simp only at he;split at he
 ·rename_i f aQL;have hf:a.eval fo=.func (.func f) #[] #[]:=by
   have hz:=(h.ev fo).1;unfold funOf at aQL;split at aQL
   ·rename_i f' iP;cases aQL;rw[iP]at hz;exact hz.1
   ·cases aQL
  split at he
  ·rename_i gx vs bCX;obtain⟨bSR,he⟩:=Lr he;exact(aRJ h hd hC hf ho bCX bSR he).step
  split at he
  case h_2=>exact eff_callIO h hd hC vI hf ho ‹_› he
  refine Pt h hd hC vI (by simp) hargs (fun Ln=>?_) ‹_› he;unfold execOp;rw[ho];simp only[resolve,hf,Deferred.ofValue,Sem.run_bind,Sem.run_pure,Result.andThen_ok,invoke];rw[<-Ln];congr 1;simp
 ·split at he
  case h_2=>cases he
  rename_i f xs aQL;split at he
  case h_2=>cases he
  obtain⟨ps,hf,Pl,Gf⟩:∃ps:List Value,a.eval fo=.func (.func f) #[] ps.toArray/\Qg (XO X ρ hp) w xs ps:=by
   have hz:=(h.ev fo).1;unfold cloOf at aQL;split at aQL
   ·rename_i f' bPG iP;cases aQL;rw[iP]at hz;exact hz
   ·cases aQL
  refine Pt h hd hC vI (vals:=args.map a.eval ++ ps) (by simp[Pl]) (fun i y v hy hv=>?_) (fun Ln=>?_) ‹_› he
  ·by_cases hi:i<args.length
   ·rw[bWU (by simpa using hi)]at hy hv;exact hargs i y v hy hv
   ·rw[bWV (by simpa using bYI hi)]at hy hv;simp only[bXC,bVS,bWQ]at hy hv;obtain⟨z,hz,rfl⟩:=hy;exact Gf _ z v hz hv
  ·unfold execOp;rw[ho];simp only[resolve,hf,Deferred.ofValue,Sem.run_bind,Sem.run_pure,Result.andThen_ok,invoke];rw[<-Ln];congr 1;simp
theorem Yi(h:iU E X w0 ρ al fr hp a w)(hd:iT E.nt o=true)(hT:nU P E.T)(hC:jR P E)(vI:∀j,j<8->¬al (id+j))(he:pV E id o (evA E fr) hp=some (x,u)):Mr P E X w0 al fr hp a w o id x u:=by
 have Be:=he;unfold pV effK at he;split at he
 ·exact(Wj h hd (.inl ‹_›) Be).step
 ·exact(Wj h hd (.inr ‹_›) Be).step
 ·exact(aMC h hd ‹_› Be).step
 ·exact(aFX h hd hT vI ‹_› Be).step
 ·exact(aRK h hd vI ‹_› Be).step
 ·exact(aFV h hd hT ‹_› Be).step
 ·exact(Lx h hd hT vI ‹_› Be).step
 ·exact(aMD h hd hT ‹_› Be).step
 ·exact(Sl h hd ‹_› Be).step
 ·exact(aFR h hd hT ‹_› Be).step
 ·exact(aFW h hd hT ‹_› Be).step
 ·exact(aMB h hd ‹_› Be).step
 ·exact(Wl h hd hT ‹_› Be).step
 ·exact(Ob h hd hT vI ‹_› Be).step
 ·exact(aFS h hd hT ‹_› Be).step
 ·exact(Od h hd hT ‹_› Be).step
 ·exact(aFU h hd hT ‹_› Be).step
 ·exact(Oc h hd hT ‹_› Be).step
 ·exact(aFT h hd hT ‹_› Be).step
 ·exact(Wk h hd ‹_› Be).step
 ·exact aMF h hd hC vI ‹_› Be
 ·rename_i b args wY ho;have hb:=he;unfold builtinK at hb;split at hb
  ·exact(aRI h hd hT ho Be).step
  ·exact(Lw h hd (.inl rfl) ho Be).step
  ·exact(Lw h hd (.inr rfl) ho Be).step
  ·exact(Zw h hd hT vI ho Be).step
  ·exact(aME h hd hT ho Be).step
  ·cases hb
 ·cases he
end
end AI
namespace AI
open Go Go.RowKit
section
variable {hp hp':Nat->Option jT}
theorem Aa{x:A}(h:∀i∈refs x,hp i=hp' i):cellsOf hp x=cellsOf hp' x:=by
 unfold cellsOf;split
 ·rfl
 ·rfl
 ·rw[h _ (by simp[refs,refsV,refsL])]
 ·rw[h _ (by simp[refs,refsV,refsL])]
 ·rfl
theorem aBD{x:A}(h:∀i∈refs x,hp i=hp' i):toD hp x=toD hp' x:=by
 unfold toD;split
 ·rfl
 ·rfl
 ·rfl
 ·rw[h _ (by simp[refs,refsV,refsL])]
 ·rw[h _ (by simp[refs,refsV,refsL])]
 ·rfl
theorem Kz{k:IntKind}{x:A}(h:∀i∈refs x,hp i=hp' i):intsOf hp k x=intsOf hp' k x:=by
 unfold intsOf;split
 ·rfl
 ·rfl
 ·rw[h _ (by simp[refs,refsV,refsL])]
 ·rw[h _ (by simp[refs,refsV,refsL])]
 ·rfl
theorem Ea{R:Type}{t:TI}{pQ:Nat}{x:A}{n:Int}{K:A->Option R}(h:∀i∈refs x,hp i=hp' i):idxK hp t pQ x n K=idxK hp' t pQ x n K:=by
 unfold idxK;split
 ·rfl
 ·rw[h _ (by simp[refs,refsV,refsL])]
 ·rw[h _ (by simp[refs,refsV,refsL])]
 ·rfl
 ·rfl
 ·rfl
 ·rfl
theorem aKI{R:Type}{sh:Bool}{t:TI}{pQ:Nat}{x:A}{n:Int}{K:A->Option R}(h:∀i∈refs x,hp i=hp' i):idxS sh hp t pQ x n K=idxS sh hp' t pQ x n K:=by
 unfold idxS;split
 ·rw[h _ (by simp[refs,refsV,refsL])];simp only[Ea h]
 ·exact Ea h
theorem Ro{xs:List A}(h:∀x∈xs,∀i∈refs x,hp i=hp' i):xs.mapM (toD hp)=xs.mapM (toD hp'):=by
 induction xs with
 |nil=>rfl
 |cons x xs ih=>rw[bWX,bWX,aBD (h x (by simp)),ih (fun y hy=>h y (by simp[hy]))]
theorem Gi{R:Type}{place:Nat->Option (Nat×Nat)}{ev No:Operand->A}{parts:List (Nat×Operand)}{cs:List S}{u:pS}{K:List S->pS->Option R}
  (he:∀p∈parts,ev p.2=No p.2) (h:∀p∈parts,∀i∈refs (ev p.2),hp i=hp' i):fillK hp place ev parts cs u K=fillK hp' place No parts cs u K:=by
 induction parts generalizing cs u with
 |nil=>rfl
 |cons p rest ih =>
  obtain⟨i,y⟩:=p;have e1:ev y=No y:=he (i,y) (by simp);have e2:cellsOf hp (ev y)=cellsOf hp' (No y):=by rw[Aa (h (i,y) (by simp)),e1]
  simp only[fillK,e2];split
  ·split
   ·exact ih (fun p hp=>he p (by simp[hp])) (fun p hp=>h p (by simp[hp]))
   ·rfl
  ·rfl
end
theorem Me{hp hp':Nat->Option jT}:∀{l:List A},(∀x∈l,∀i∈refs x,hp i=hp' i)->capsOf hp l=capsOf hp' l
 | [],_=>rfl
 |y :: l,h=>by
  have ih:=Me (l:=l) fun x hx=>h x (bVZ _ hx)
  cases y with
  |v x=>cases x with
   |one lx=>cases lx with
    |ptr i o=>cases o with
     |zero =>
      have e:=h (.v (.one (.ptr i 0))) (bVV ..) i (List.mem_singleton.2 rfl);simp only[capsOf,e,ih]
     |succ o=>rfl
    |_=>rfl
   |agg=>rfl
  |Jp=>rfl
  |any=>rfl
theorem Qa{R:Type}{E:Env}{id:Nat}{keep:Bool}{f:FuncId}{args:List A}{hp hp':Nat->Option jT}{K:A->pS->Option R}(h:∀x∈args,∀i∈refs x,hp i=hp' i) :
  callK E id keep f args hp K=callK E id keep f args hp' K:=by
 unfold callK;rw[Ro h]
theorem aIF{hp hp':Nat->Option jT}{x:A}(h:∀i∈refs x,hp i=hp' i):toIO hp x=toIO hp' x:=by
 unfold toIO;split
 ·rw[h _ (by simp[refs,refsV,refsL])]
 ·rw[h _ (by simp[refs,refsV,refsL])]
 ·rfl
theorem Ml{hp hp':Nat->Option jT}(ps:List Nat):∀{args:List A} (i:Nat),(∀x∈args,∀i∈refs x,hp i=hp' i)->argsIO ps hp i args=argsIO ps hp' i args
 | [],_,_=>rfl
 |x :: args,i,h=>by
  unfold argsIO;rw[aIF (h x (by simp)),aBD (h x (by simp)),Ml ps (i+1) (fun y hy=>h y (by simp[hy]))]
theorem aAD{R:Type}{E:Env}{ps:List Nat}{id:Nat}{keep:Bool}{f:FuncId}{args:List A}{hp hp':Nat->Option jT}{K:A->pS->Option R}(h:∀x∈args,∀i∈refs x,hp i=hp' i) :
  callIO E ps id keep f args hp K=callIO E ps id keep f args hp' K:=by
 unfold callIO;rw[Ml ps 0 h]
theorem Tb{R:Type}{n0 id:Nat}{e:TypeId}{te:TI}{s x:A}{hp hp':Nat->Option jT}{K:A->pS->Option R}(hs:∀i∈refs s,hp i=hp' i)(hx:∀i∈refs x,hp i=hp' i) :
  appCells n0 id e te s x hp K=appCells n0 id e te s x hp' K:=by
 unfold appCells;split
 ·rw[hx _ (by simp[refs,refsV,refsL])];split
  ·split
   ·split
    ·rw[hs _ (by simp[refs,refsV,refsL])]
    ·rfl
    ·rfl
   ·rfl
  ·rfl
 ·rfl
theorem Ss{R:Type}{E:Env}{id:Nat}{b:Builtin}{args:List A}{wY:List TypeId}{hp hp':Nat->Option jT}{K:A->pS->Option R}(h:∀x∈args,∀i∈refs x,hp i=hp' i) :
  builtinK E id b args wY hp K=builtinK E id b args wY hp' K:=by
 unfold builtinK;split
 ·rfl
 ·rfl
 ·rfl
 ·rename_i s x t t';split
  ·split
   ·split
    ·split
     ·rw[Kz (h x (by simp))];split
      ·rename_i i n ms hq;rw[h (.v (.one (.buf i n))) (by simp) i (by simp[refs,refsV,refsL])]
      ·rfl
      ·rfl
     ·rfl
    ·exact Tb (h s (by simp)) (h x (by simp))
    ·rfl
   ·rfl
  ·rfl
 ·rename_i d s t t';split
  ·split
   ·rw[Kz (h s (by simp))];split
    ·rename_i i n ms hq;rw[h (.v (.one (.buf i n))) (by simp) i (by simp[refs,refsV,refsL])]
    ·rename_i i off n ms hq;rw[h (.v (.one (.view i off n))) (by simp) i (by simp[refs,refsV,refsL])]
    ·rfl
   ·rfl
  ·rfl
 ·rfl
theorem vP{α β:Type}{f g:α->β}{o:Option α}(h:∀x,o=some x->f x=g x):o.map f=o.map g:=by
 cases o with
 |none=>rfl
 |some x=>simp[h x rfl]
theorem aMG{R:Type}{E:Env}{id:Nat}{o:Oper}{ev No:Operand->A}{hp hp':Nat->Option jT}{K:A->pS->Option R}(he:∀x,x∈o.op.operands.toList->ev x=No x)(h:∀x,x∈o.op.operands.toList->∀i∈refs (ev x),hp i=hp' i) :
  effK E id o ev hp K=effK E id o No hp' K:=by
 unfold effK;split <;> rename_i ho <;> (try rw[ho]at he h)
 ·rw[he _ (by simp[Op.operands])]
 ·rw[he _ (by simp[Op.operands])]
 ·rw[he _ (by simp[Op.operands]),he _ (by simp[Op.operands]),he _ (by simp[Op.operands])]
 ·rw[Aa (h _ (by simp[Op.operands])),he _ (by simp[Op.operands])]
 ·have e1:∀p∈(‹Array (Nat×Operand)›).toList,p.2∈(‹Array (Nat×Operand)›).toList.map (·.2):=fun p hp=>List.mem_map.2 ⟨p,hp,rfl⟩
  split
  ·exact Gi (fun p hp=>he _ (by simpa [Op.operands] using e1 p hp)) (fun p hp=>h _ (by simpa [Op.operands] using e1 p hp))
  ·exact Gi (fun p hp=>he _ (by simpa [Op.operands] using e1 p hp)) (fun p hp=>h _ (by simpa [Op.operands] using e1 p hp))
  ·rfl
 ·have e1:∀p∈(‹Array (Nat×Operand)›).toList,p.2∈(‹Array (Nat×Operand)›).toList.map (·.2):=fun p hp=>List.mem_map.2 ⟨p,hp,rfl⟩
  split
  ·split
   ·split
    ·exact Gi (fun p hp=>he _ (by simpa [Op.operands] using e1 p hp)) (fun p hp=>h _ (by simpa [Op.operands] using e1 p hp))
    ·rfl
   ·rfl
  ·rfl
 ·rename_i t y;have e1:ev y=No y:=he _ (by simp[Op.operands]);have e2:=h y (by simp[Op.operands]);split
  ·rw[<-e1];split
   ·rename_i i off iP;rw[e2 i (by rw[iP];simp[refs,refsV,refsL])]
   ·rename_i i j iP;rw[e2 i (by rw[iP];simp[refs,refsV,refsL])]
   ·rfl
   ·rfl
   ·rfl
  ·rfl
 ·rename_i f Gn;have e1:Gn.toList.map ev=Gn.toList.map No:=bWZ fun x hx=>he x (by simpa [Op.operands] using hx)
  rw[Me (hp':=hp') (by
   intro x hx i hi;obtain⟨y,hy,rfl⟩:=List.mem_map.1 hx;exact h y (by simpa [Op.operands] using hy) i hi),e1]
 ·rename_i t y z;have e1:ev y=No y:=he _ (by simp[Op.operands]);have e3:ev z=No z:=he _ (by simp[Op.operands]);have e2:=h y (by simp[Op.operands]);have e4:cellsOf hp (ev z)=cellsOf hp' (No z):=by rw[Aa (h z (by simp[Op.operands])),e3]
  split
  ·rw[<-e1,e4,<-e3];split
   ·rename_i i off iP;rw[e2 i (by rw[iP];simp[refs,refsV,refsL])]
   ·rename_i i j iP;rw[e2 i (by rw[iP];simp[refs,refsV,refsL])]
   ·rfl
  ·rfl
 ·rw[he _ (by simp[Op.operands]),he _ (by simp[Op.operands])]
 ·rw[he _ (by simp[Op.operands])]
 ·rw[he _ (by simp[Op.operands])]
 ·rw[he _ (by simp[Op.operands]),he _ (by simp[Op.operands])]
 ·rename_i t y lo hi mx;have e1:ev y=No y:=he _ (by simp[Op.operands]);have e2:lo.map ev=lo.map No:=vP fun x hx=>he x (by subst hx;simp[Op.operands])
  have e3:hi.map ev=hi.map No:=vP fun x hx=>he x (by subst hx;simp[Op.operands])
  have e4:mx.map ev=mx.map No:=vP fun x hx=>he x (by subst hx;simp[Op.operands])
  rw[e1,e2,e3,e4]
 ·rw[he _ (by simp[Op.operands])]
 ·rw[he _ (by simp[Op.operands])]
 ·rename_i t y z;have e1:ev y=No y:=he _ (by simp[Op.operands]);have e3:ev z=No z:=he _ (by simp[Op.operands]);have e2:=h y (by simp[Op.operands]);rw[<-e1,e3];split
  ·split
   ·split
    ·split
     ·rfl
     ·rfl
     ·exact aKI e2
    ·rfl
   ·split
    ·rename_i iP;exact Ea (by rw[iP]at e2;exact e2)
    ·exact Ea (by intro i hi;cases hi)
    ·rfl
   ·rfl
  ·rfl
 ·rw[he _ (by simp[Op.operands]),he _ (by simp[Op.operands])]
 ·rw[he _ (by simp[Op.operands])]
 ·rename_i f args wY;have e1:args.toList.map ev=args.toList.map No:=bWZ fun x hx=>he x (by simp[Op.operands,Call.operands];exact .inr (by simpa using hx))
  have e0:ev f=No f:=he f (by simp[Op.operands,Call.operands]);rw[e0,e1];split
  ·split
   ·rfl
   ·have hx:∀x∈args.toList.map No,∀i∈refs x,hp i=hp' i:=by
     intro x hx i hi;rw[<-e1]at hx;obtain⟨y,hy,rfl⟩:=List.mem_map.1 hx;exact h y (by simp[Op.operands,Call.operands];exact .inr (by simpa using hy)) i hi
    split
    ·exact Qa hx
    ·exact aAD hx
  ·split
   ·split
    ·refine Qa ?_;intro x hx i hi;rcases List.mem_append.1 hx with hx |hx
     ·rw[<-e1]at hx;obtain⟨y,hy,rfl⟩:=List.mem_map.1 hx;exact h y (by simp[Op.operands,Call.operands];exact .inr (by simpa using hy)) i hi
     ·obtain⟨y,_,rfl⟩:=List.mem_map.1 hx;simp[refs,refsV,refsL]at hi
    ·rfl
   ·rfl
 ·rename_i b args wY;have e1:args.toList.map ev=args.toList.map No:=bWZ fun x hx=>he x (by simpa [Op.operands,Call.operands] using hx)
  rw[e1];refine Ss ?_;intro x hx i hi;rw[<-e1]at hx;obtain⟨y,hy,rfl⟩:=List.mem_map.1 hx;exact h y (by simpa [Op.operands,Call.operands] using hy) i hi
 ·rfl
end AI
namespace AI
open Go Go.RowKit
inductive Gd where
 |run
 |skip
 |bad
def gd(ops:Array Oper)(o:Oper)(fr:Nat->A):Gd :=
 match o.guard with
 |none=>.run
 |some (j,want)=>match (ops[j]?).bind (·.dst)with
  |some d=>match fr d with
   | .v (.one (.s (.sc (.bool b))))=>if b=want then .run else .skip
   | .Jp []=>.skip
   |_=>.bad
  |none=>.bad
structure Dt where
 i:Nat
 o:Oper
 x:A
 u:pS
 t:List Nat
def yN(E:Env)(ops:Array Oper)(base:Nat)(d:Dt)(st fP:St):Prop :=
 ops[d.i]?=some d.o/\iT E.nt d.o=true /\
  ((gd ops d.o st.fr=.run/\pV E (base+8*d.i) d.o (evA E st.fr) st.hp=some (d.x,d.u)/\d.t=tN d.o (evA E st.fr) d.u)\/(gd ops d.o st.fr=.skip/\d.x=.Jp []/\d.u=[]/\d.t=[])) /\
  fP=after d.o st d.x d.u
def yC(E:Env)(ops:Array Oper)(base:Nat):List Dt->St->St->Prop
 | [],st,fP=>st=fP
 |d :: l,st,fP=>∃st1,yN E ops base d st st1/\yC E ops base l st1 fP
def Dt.told(d:Dt):Rec:=⟨d.i,d.o,d.t,d.u.map (·.1)⟩
def Dc(ops:Array Oper)(d d':Dt):Prop:=indep ops d.told d'.i d'.o d'.t (d'.u.map (·.1))=true
theorem jV{R:Type}(len:Nat)(lo hi mx:Option A)(K:Nat->Nat->Option R):sliceK len lo hi mx K=(sliceK len lo hi mx fun l h=>some (l,h)).bind fun p=>K p.1 p.2:=by
 unfold sliceK;split
 ·split <;> rfl
 ·split
  ·split <;> rfl
  ·rfl
 ·rfl
theorem Hh{R S:Type}(n:Int)(f:Nat->S)(K:S->Option R):∀m j:Nat,splitN n m j (fun i=>K (f i))=(splitN n m j (fun i=>some (f i))).bind K
 |0,_=>rfl
 |m+1,j=>by
  unfold splitN;cases decide (n=(j:Int))with
  |true=>rfl
  |false=>exact Hh n f K m (j+1)
theorem qH{R:Type}(hp:Nat->Option jT)(t:TI)(pQ:Nat)(x:A)(n:Int)(K:A->Option R):idxK hp t pQ x n K=(idxK hp t pQ x n some).bind K:=by
 unfold idxK;split
 ·split
  ·split <;> rfl
  ·rfl
 ·split
  ·split
   ·split <;> rfl
   ·rfl
  ·split <;> rfl
  ·rfl
 ·split
  ·split
   ·split <;> rfl
   ·rfl
  ·rfl
 ·split
  ·split <;> rfl
  ·rfl
 ·split
  ·rename_i id off x len esz' g hk;cases bVR len 8 with
   |true=>exact Hh n (fun j=>A.v (V.one (L.ptr id (off+j*pQ)))) K len 0
   |false =>
    simp only[cond_false];split <;> rfl
  ·rfl
 ·split
  ·split
   ·split <;> rfl
   ·rfl
  ·rfl
 ·rfl
theorem Dn{R S:Type}(n:Int){F:Nat->Option R}{G:Nat->Option S}(K:S->Option R)(h:∀j,F j=(G j).bind K):∀m j:Nat,splitN n m j F=(splitN n m j G).bind K
 |0,_=>rfl
 |m+1,j=>by
  unfold splitN;cases decide (n=(j:Int))with
  |true=>exact h j
  |false=>exact Dn n K h m (j+1)
theorem Pk{R:Type}(sh:Bool)(hp:Nat->Option jT)(t:TI)(pQ:Nat)(x:A)(n:Int)(K:A->Option R):idxS sh hp t pQ x n K=(idxS sh hp t pQ x n some).bind K:=by
 unfold idxS;split
 ·split
  ·exact Dn n K (fun j=>qH ..) _ 0
  ·exact qH ..
 ·exact qH ..
theorem Mh{R:Type}(E:Env)(id:Nat)(keep:Bool)(f:FuncId)(args:List A)(hp:Nat->Option jT)(K:A->pS->Option R):callK E id keep f args hp K=(callK E id keep f args hp fun a u=>some (a,u)).bind fun p=>K p.1 p.2:=by
 unfold callK;split
 ·rfl
 ·split
  ·rfl
  ·rename_i g rs _;unfold aO;simp only[Dp];split
   ·cases bVR rs.length 8 with
    |false=>rfl
    |true =>
     simp only[cond_true];split <;> rfl
   ·rfl
theorem Wu{R:Type}(E:Env)(ps:List Nat)(id:Nat)(keep:Bool)(f:FuncId)(args:List A)(hp:Nat->Option jT)(K:A->pS->Option R):callIO E ps id keep f args hp K=(callIO E ps id keep f args hp fun a u=>some (a,u)).bind fun p=>K p.1 p.2:=by
 unfold callIO;split
 ·rfl
 ·generalize (leqN _ _&&_)=bb;cases bb with
  |false=>rfl
  |true =>
   simp only[cond_true];split
   ·rfl
   ·unfold aO;simp only[Dp];split
    ·generalize (bVR _ _&&_&&_)=b2;cases b2 with
     |false=>rfl
     |true =>
      simp only[cond_true];split
      ·rfl
      ·split <;> rfl
    ·rfl
theorem Ol{R:Type}(n0 id:Nat)(e:TypeId)(te:TI)(s x:A)(hp:Nat->Option jT)(K:A->pS->Option R):appCells n0 id e te s x hp K=(appCells n0 id e te s x hp fun a u=>some (a,u)).bind fun p=>K p.1 p.2:=by
 unfold appCells;split
 ·split
  ·split
   ·split
    ·split
     ·split <;> rfl
     ·rfl
    ·split <;> rfl
    ·rfl
   ·rfl
  ·rfl
 ·rfl
theorem Oi{R:Type}(E:Env)(id:Nat)(b:Builtin)(args:List A)(wY:List TypeId)(hp:Nat->Option jT)(K:A->pS->Option R):builtinK E id b args wY hp K=(builtinK E id b args wY hp fun a u=>some (a,u)).bind fun p=>K p.1 p.2:=by
 unfold builtinK;split
 ·split <;> rfl
 ·split <;> rfl
 ·split <;> rfl
 ·split
  ·split
   ·split
    ·split
     ·split
      ·split
       ·generalize bWA _ _=bb;cases bb with
        |true=>rfl
        |false =>
         simp only[cond_false];split
         ·split <;> rfl
         ·rfl
       ·rfl
      ·split <;> rfl
      ·rfl
     ·rfl
    ·exact Ol ..
    ·rfl
   ·rfl
  ·rfl
 ·split
  ·split
   ·split
    ·split
     ·split <;> rfl
     ·rfl
    ·split
     ·split <;> rfl
     ·rfl
    ·rfl
   ·rfl
  ·rfl
 ·rfl
theorem oR {R : Type} (E : Env) (id : Nat) (o : Oper) (ev : Operand → A) (hp : Nat → Option jT) (K : A → pS → Option R) : effK E id o ev hp K = (pV E id o ev hp).bind fun p => K p.1 p.2 := by
  unfold pV effK
  split
  · rfl
  · rfl
  · split
    · split
      · rfl
      · rename_i t _ _ _ _; cases t <;> rfl
    · rfl
  · split <;> rfl
  · split
    · split <;> rfl
    · rfl
  · split
    · rw [lU]; conv => rhs; rw [lU]
      rw [bVW]; rfl
    · rw [lU]; conv => rhs; rw [lU]
      rw [bVW]; rfl
    · rfl
  · split
    · split
      · split
        · rw [lU]; conv => rhs; rw [lU]
          rw [bVW]
          congr 1
          funext r
          split
          · split <;> rfl
          · rfl
        · rfl
      · rfl
    · rfl
  · split
    · split
      · split
        · split <;> rfl
        · rfl
      · split <;> rfl
      · split <;> rfl
      · split <;> rfl
      · rfl
    · rfl
  · split <;> rfl
  · split
    · split
      · split
        · split <;> rfl
        · rfl
      · split
        · split <;> rfl
        · rfl
      · rfl
    · rfl
  · split
    · generalize boolT _ _ = bb
      cases bb with
      | true => simp only [cond_true]; rw [Gu]; conv => rhs; rw [Gu]
                rw [bVW]; rfl
      | false => rfl
    · split
      · split <;> rfl
      · rfl
    · rfl
  · split
    · rw [Jn]; conv => rhs; rw [Jn]
      rw [bVW]; rfl
    · rfl
  · split
    · rw [Cw]; conv => rhs; rw [Cw]
      rw [bVW]; rfl
    · rfl
  · split
    · split
      · split
        · split <;> rfl
        · rfl
      · rfl
    · rfl
  · split
    · split
      · split
        · split
          · rw [jV]; conv => rhs; rw [jV]
            rw [bVW]; rfl
          · rfl
        · rw [jV]; conv => rhs; rw [jV]
          rw [bVW]; rfl
        · rw [jV]; conv => rhs; rw [jV]
          rw [bVW]; rfl
        · rw [jV]; conv => rhs; rw [jV]
          rw [bVW]; rfl
        · rfl
      · split
        · split
          · rw [jV]; conv => rhs; rw [jV]
            rw [bVW]; rfl
          · rfl
        · rfl
      · rfl
    · rfl
  · split
    · split
      · split <;> rfl
      · split <;> rfl
      · rfl
    · rfl
  · split
    · split
      · split <;> rfl
      · rfl
    · rfl
  · split
    · split
      · split
        · split
          · rfl
          · rfl
          · rw [Pk]; conv => rhs; rw [Pk]
            rw [bVW]; rfl
        · rfl
      · split
        · rw [qH]; conv => rhs; rw [qH]
          rw [bVW]; rfl
        · rw [qH]; conv => rhs; rw [qH]
          rw [bVW]; rfl
        · rfl
      · rfl
    · rfl
  · split
    · split
      · split <;> rfl
      · rfl
    · split <;> rfl
    · rfl
  · split
    · split <;> rfl
    · rfl
  · split
    · split
      · unfold aO
        split <;> rfl
      · split
        · exact Mh _ _ _ _ _ _ _
        · exact Wu _ _ _ _ _ _ _ _
    · split
      · split
        · exact Mh _ _ _ _ _ _ _
        · rfl
      · rfl
  · exact Oi _ _ _ _ _ _ _
  · rfl
theorem aAX(fr:Nat->A)(d:Nat)(b:Bool)(h:fr d=Bo (.bool b)):Ay fr d (Bo (.bool b))=fr:=Ue fr d _ h
theorem Pd{R:Type}(E:Env)(draw:Bool)(ops:Array Oper)(base:Nat)(K:St->Option R)(r:R):∀(l:List Oper) (i:Nat) (nW:List Rec) (st:St),
  (∀(k:Nat) (o:Oper),l[k]?=some o->ops[i+k]?=some o)->opsK E draw ops base l i nW st K=some r ->
  ∃ds fP,K fP=some r/\yC E ops base ds st fP/\ds.map (·.i)=List.range' i l.length /\
   (draw=true->(∀rc∈nW,∀d∈ds,indep ops rc d.i d.o d.t (d.u.map (·.1))=true)/\bXN (Dc ops) ds/\∀d∈ds,xR d.i d.o=true)
 | [],i,nW,st,_,h=>⟨[],st,h,rfl,rfl,fun _=>⟨fun _ _ _ hd=>(by cases hd),List.Pairwise.nil,fun _ hd=>(by cases hd)⟩⟩
 |o :: l,i,nW,st,hl,h=>by
  have hi:ops[i]?=some o:=by simpa using hl 0 o rfl
  have bFF:∀(k:Nat) (o':Oper),l[k]?=some o'->ops[i+1+k]?=some o':=fun k o' hk=>by have:=hl (k+1) o' (by simpa using hk);rwa [show i+(k+1)=i+1+k by omega]at this
  unfold opsK at h;cases bJI:iT E.nt o&&(!draw||xR i o)with
  |false=>rw[bJI]at h;cases h
  |true =>
   rw[bJI]at h;simp only[cond_true]at h;obtain⟨aFJ,bFI⟩:=(bVU _ _).mp bJI;have go:∀(x:A) (u:pS) (t:List Nat),yN E ops base ⟨i,o,x,u,t⟩ st (after o st x u) ->
     (bif !draw||nW.all fun r=>indep ops r i o t (u.map (·.1))then opsK E draw ops base l (i+1) (⟨i,o,t,u.map (·.1)⟩ :: nW) (after o st x u) K else none)=some r ->
     ∃ds fP,K fP=some r/\yC E ops base ds st fP/\ds.map (·.i)=List.range' i (o :: l).length /\
      (draw=true->(∀rc∈nW,∀d∈ds,indep ops rc d.i d.o d.t (d.u.map (·.1))=true)/\bXN (Dc ops) ds/\∀d∈ds,xR d.i d.o=true):=by
    intro x u t hs hk;cases hc:!draw||nW.all fun r=>indep ops r i o t (u.map (·.1))with
    |false=>rw[hc]at hk;cases hk
    |true =>
     rw[hc]at hk;simp only[cond_true]at hk;obtain⟨ds,fP,h1,h2,h3,h4⟩:=Pd E draw ops base K r l (i+1) _ _ bFF hk;refine⟨⟨i,o,x,u,t⟩ :: ds,fP,h1,⟨_,hs,h2⟩,by simp[h3,List.range'_succ],fun aFK=>?_⟩;obtain⟨h5,h6,h7⟩:=h4 aFK;subst aFK;simp only[bXO,bXP]at hc bFI;refine⟨fun rc bMZ d hd=>?_,List.pairwise_cons.2 ⟨fun d hd=>(show indep ops ⟨i,o,t,u.map (·.1)⟩ d.i d.o d.t (d.u.map (·.1))=true from h5 _ (bVV ..) d hd),h6⟩,fun d hd=>?_⟩
     ·rcases List.mem_cons.1 hd with rfl |hd
      ·exact List.all_eq_true.1 hc rc bMZ
      ·exact h5 rc (by simp[bMZ]) d hd
     ·rcases List.mem_cons.1 hd with rfl |hd
      ·exact bFI
      ·exact h7 d hd
   split at h
   ·rename_i hg;rw[oR]at h;obtain⟨⟨x,u⟩,he,h⟩:=Option.bind_eq_some_iff.1 h;exact go x u _ ⟨hi,aFJ,.inl ⟨by unfold gd;rw[hg],he,rfl⟩,rfl⟩ h
   ·rename_i j want hg;split at h
    ·rename_i d hd;split at h
     ·rename_i b hb;have e0:Ay st.fr d (Bo (.bool b))=st.fr:=aAX st.fr d b hb;have aZB:∀w,(b==want)=w->gd ops o st.fr=if w=true then .run else .skip:=by
       intro w hw;unfold gd;rw[hg];simp only[hd,hb];subst hw
       by_cases aHK:b=want <;> simp[aHK]
      have key:(bif b==want then
        effK E (base+8*i) o (evA E st.fr) st.hp fun a u =>
         bif !draw||nW.all fun r=>indep ops r i o (tN o (evA E st.fr) u) (u.map (·.1))then opsK E draw ops base l (i+1) (⟨i,o,tN o (evA E st.fr) u,u.map (·.1)⟩ :: nW) (after o st a u) K else none
       else bif !draw||nW.all fun r=>indep ops r i o [] []then opsK E draw ops base l (i+1) (⟨i,o,[],[]⟩ :: nW) (after o st (.Jp []) []) K else none)=some r:=by
       cases b
       ·simp only[cond_false,e0]at h;exact h
       ·simp only[cond_true,e0]at h;exact h
      cases aHK:b==want with
      |true =>
       rw[aHK]at key;simp only[cond_true]at key;rw[oR]at key;obtain⟨⟨x,u⟩,he,key⟩:=Option.bind_eq_some_iff.1 key;exact go x u _ ⟨hi,aFJ,.inl ⟨by rw[aZB true aHK];rfl,he,rfl⟩,rfl⟩ key
      |false =>
       rw[aHK]at key;simp only[cond_false]at key;exact go (.Jp []) [] [] ⟨hi,aFJ,.inr ⟨by rw[aZB false aHK];rfl,rfl,rfl,rfl⟩,rfl⟩ key
     ·rename_i hb;exact go (.Jp []) [] [] ⟨hi,aFJ,.inr ⟨by unfold gd;rw[hg];simp only[hd,hb],rfl,rfl,rfl⟩,rfl⟩ h
     ·cases h
    ·cases h
end AI
namespace AI
open Go Go.RowKit
theorem Bh{xs ys:List Nat}(h:Of xs ys=true){i:Nat}(hx:i∈xs):i ∉ ys:=by
 intro hy;have:=List.all_eq_true.1 h i hx;simp at this;exact this hy
theorem iI{u:pS}{hp:Nat->Option jT}{i:Nat}(h:i ∉ u.map (·.1)):applyUps u hp i=hp i:=by
 induction u generalizing hp with
 |nil=>rfl
 |cons p u ih =>
  obtain⟨j,b⟩:=p;simp only[bVN,bWW,not_or]at h;rw[applyUps,ih h.2,fM _ _ h.1]
theorem Ce{u:pS}{hp hp':Nat->Option jT}{i:Nat}(h:i∈u.map (·.1)):applyUps u hp i=applyUps u hp' i:=by
 induction u generalizing hp hp' with
 |nil=>cases h
 |cons p u ih =>
  obtain⟨j,b⟩:=p;simp only[applyUps]
  by_cases hi:i∈u.map (·.1)
  ·exact ih hi
  ·have e:i=j:=by simpa [hi] using h
   subst e;rw[iI hi,iI hi,bJ,bJ]
theorem Ok{u v:pS}{hp:Nat->Option jT}(h:Of (u.map (·.1)) (v.map (·.1))=true):applyUps u (applyUps v hp)=applyUps v (applyUps u hp):=by
 funext i
 by_cases hu:i∈u.map (·.1)
 ·have hv:i ∉ v.map (·.1):=Bh h hu;rw[iI hv];exact Ce hu
 ·rw[iI hu]
  by_cases hv:i∈v.map (·.1)
  ·exact Ce hv
  ·rw[iI hv,iI hv,iI hu]
theorem aPM{o:Oper}{x:A}{fr:Nat->A}{t:Nat}(h:o.dst≠some t):Cp o x fr t=fr t:=by
 unfold Cp;cases hd:o.dst with
 |some d=>exact fM _ _ (fun e=>h (by rw[hd,e]))
 |none=>rfl
theorem aES{o o':Oper}{x x':A}{fr:Nat->A}(h:∀d,o.dst=some d->o'.dst≠some d):Cp o x (Cp o' x' fr)=Cp o' x' (Cp o x fr):=by
 unfold Cp;cases hd:o.dst with
 |none=>rfl
 |some d =>
  cases yV:o'.dst with
  |none=>rfl
  |some d' =>
   have yT:d≠d':=fun e=>h d hd (by rw[yV,e])
   funext t;simp only
   by_cases h1:t=d
   ·subst h1;rw[bJ,fM _ _ yT,bJ]
   ·rw[fM _ _ h1]
    by_cases h2:t=d'
    ·subst h2;rw[bJ,bJ]
    ·rw[fM _ _ h2,fM _ _ h2,fM _ _ h1]
def aYK(ops:Array Oper)(p q:Dt):Prop:=p.o.apart ops q.o=true/\Of (p.u.map (·.1)) q.t=true/\Of (q.u.map (·.1)) p.t=true
theorem aYK.symm{ops:Array Oper}{p q:Dt}(h:aYK ops p q):aYK ops q p:=by
 refine⟨?_,h.2.2,h.2.1⟩;obtain⟨h1,h2,h3⟩:=Oper.apart_spec h.1;unfold Oper.apart;rw[bVU];constructor
 ·cases hq:q.o.dst with
  |none=>rfl
  |some d =>
   simp only[bVU,bWY,bne_iff_ne,ne_eq];refine⟨by simpa using h3 d hq,fun hp=>?_⟩;exact h2 d hp hq
 ·cases hp:p.o.dst with
  |none=>rfl
  |some d=>simpa using h1 d hp
section
variable {E:Env} {ops:Array Oper} {base:Nat}
theorem Rn{o:Oper}{t:Tmp}(h:Operand.tmp t∈o.op.operands.toList):t∈o.looksAt ops:=by
 unfold Oper.looksAt;exact List.mem_append.2 (.inl (List.mem_filterMap.2 ⟨_,h,rfl⟩))
theorem aLU{fr aZL:Nat->A}{o:Oper}(h:∀t,t∈o.looksAt ops->fr t=aZL t){x:Operand}(hx:x∈o.op.operands.toList):evA E fr x=evA E aZL x:=by
 cases x with
 |tmp t=>exact h t (Rn hx)
 |_=>rfl
theorem aDI{fr aZL:Nat->A}{o:Oper}(h:∀t,t∈o.looksAt ops->fr t=aZL t):gd ops o fr=gd ops o aZL:=by
 unfold gd;cases hg:o.guard with
 |none=>rfl
 |some p =>
  obtain⟨j,want⟩:=p;simp only;cases hd:(ops[j]?).bind (·.dst)with
  |none=>rfl
  |some d =>
   have:fr d=aZL d:=h d (by
    unfold Oper.looksAt;rw[hg];exact List.mem_append.2 (.inr (by simp[hd])))
   simp only[this]
theorem yN.same{p:Dt}{st st1:St}(aZC:∀t,t∈p.o.looksAt ops->st.fr t=st1.fr t)(Vt:∀i,i∈p.t->st.hp i=st1.hp i){bEN:St}(h:yN E ops base p st1 bEN):yN E ops base p st (after p.o st p.x p.u):=by
 obtain⟨h1,h2,h3,_⟩:=h;refine⟨h1,h2,?_,rfl⟩;rcases h3 with ⟨hg,he,ht⟩ |⟨hg,hx,hu,ht⟩
 ·have iP:∀x,x∈p.o.op.operands.toList->evA E st1.fr x=evA E st.fr x:=fun x hx=>(aLU (ops:=ops) aZC hx).symm
  refine .inl ⟨by rw[aDI (ops:=ops) aZC];exact hg,?_,?_⟩
  ·rw[<-he];exact(aMG iP (fun x hx i hi=>(Vt i (by rw[ht];exact List.mem_append.2 (.inl (List.mem_flatMap.2 ⟨x,hx,hi⟩)))).symm)).symm
  ·rw[ht];unfold tN;congr 1;rw[bYK,bYK];congr 1;exact bWZ fun x hx=>by rw[iP x hx]
 ·exact .inr ⟨by rw[aDI (ops:=ops) aZC];exact hg,hx,hu,ht⟩
theorem Cg{q:Dt}{st:St}{o:Oper}(h:∀d,q.o.dst=some d->d ∉ o.looksAt ops):∀t,t∈o.looksAt ops->st.fr t=(after q.o st q.x q.u).fr t:=by
 intro t ht;exact(aPM (fun e=>h t e ht)).symm
theorem aHV{p:Dt}{st fP:St}(h:yN E ops base p st fP):∀i,i∈p.u.map (·.1)->i∈p.t:=by
 intro i hi;obtain⟨_,_,h3,_⟩:=h;rcases h3 with ⟨_,_,ht⟩ |⟨_,_,hu,_⟩
 ·rw[ht];exact List.mem_append.2 (.inr hi)
 ·rw[hu]at hi;cases hi
theorem yC.swap{p q:Dt}{l:List Dt}{st aZY:St}(hi:aYK ops q p)(h:yC E ops base (q :: p :: l) st aZY):yC E ops base (p :: q :: l) st aZY:=by
 obtain⟨st1,hq,bEN,hp,hl⟩:=h;obtain⟨a1,a2,a3⟩:=Oper.apart_spec hi.1;have e1:st1=after q.o st q.x q.u:=hq.2.2.2;have e2:bEN=after p.o st1 p.x p.u:=hp.2.2.2;have hp':yN E ops base p st (after p.o st p.x p.u):=by
  refine yN.same (st1:=st1) ?_ ?_ hp
  ·rw[e1];exact Cg a1
  ·intro i aCZ;rw[e1];exact(iI (fun hm=>Bh hi.2.1 hm aCZ)).symm
 have aCW:yN E ops base q (after p.o st p.x p.u) (after q.o (after p.o st p.x p.u) q.x q.u):=by
  refine yN.same (st1:=st) ?_ ?_ hq
  ·intro t ht;exact(Cg a3 t ht).symm
  ·intro i aCZ;exact iI (fun hm=>Bh hi.2.2 hm aCZ)
 have e3:after q.o (after p.o st p.x p.u) q.x q.u=bEN:=by
  rw[e2,e1];unfold after;simp only;rw[aES (o:=q.o) (o':=p.o) (fun d hd=>a2 d hd),Ok];have hu:=aHV hp;unfold Of;rw[List.all_eq_true];intro i aCZ;have:=Bh hi.2.1 aCZ;simp only[bWY,List.elem_eq_mem,decide_eq_false_iff_not];exact fun hm=>this (hu i hm)
 exact⟨_,hp',_,aCW,by rw[e3];exact hl⟩
theorem yC.front{p:Dt}{l2:List Dt}{aZY:St}:∀{l1:List Dt} {st:St},(∀q∈l1,aYK ops q p)->yC E ops base (l1 ++ p :: l2) st aZY->yC E ops base (p :: (l1 ++ l2)) st aZY
 | [],st,_,h=>h
 |q :: l1,st,hi,h=>by
  obtain⟨st1,hq,h⟩:=h;have ih:=yC.front (fun q' aCW=>hi q' (bVZ _ aCW)) h;exact yC.swap (hi q (bVV ..)) ⟨st1,hq,ih⟩
end
def aSB(base:Nat)(done:Nat->Prop)(id:Nat):Prop:=id<base\/∃i,done i/\base+8*i<=id/\id<base+8*i+8
section
variable {P:Program} {E:Env} {X:Nat->Prop} {w0:Old} {ops:Array Oper} {base:Nat}
theorem iU.rD{ρ:Nat->Nat}{al al':Nat->Prop}{fr:Nat->A}{hp:Nat->Option jT}{a:Act}{w:World}(h:iU E X w0 ρ al fr hp a w)(qW:∀i,al i->al' i):iU E X w0 ρ al' fr hp a w :=
 { fr:=h.fr,sz:=h.sz,nod:=h.nod,blk:=h.blk,inj:=h.inj,alh:=fun i b hb=>qW i (h.alh i b hb),alr:=fun t i hi=>qW i (h.alr t i hi),below:=h.below,x0:=h.x0,glob:=h.glob,mg:=h.mg,al0:=fun i hi=>qW i (h.al0 i hi),vD:=h.vD }
theorem Pq{ρ:Nat->Nat}{al:Nat->Prop}{fr:Nat->A}{hp:Nat->Option jT}{a:Act}{w:World}(h:iU E X w0 ρ al fr hp a w){o:Oper} :
  (gd ops o fr=.run->Region.wanted o (yielded ops a.tmps)=true)/\(gd ops o fr=.skip->Region.wanted o (yielded ops a.tmps)=false):=by
 unfold gd Region.wanted;cases hg:o.guard with
 |none=>exact⟨fun _=>rfl,fun h=>by cases h⟩
 |some p =>
  obtain⟨j,want⟩:=p;simp only;cases hd:(ops[j]?).bind (·.dst)with
  |none=>exact⟨fun h=>(by cases h),fun h=>(by cases h)⟩
  |some d =>
   simp only;split
   ·rename_i b hb;have hr:=h.fr d;rw[hb]at hr;have hv:a.tmps.getD d undef=.bool b:=hr.1;have hy:yielded ops a.tmps j=some b:=by
     unfold yielded;rw[hd];simp only[bXG];have:a.tmps[d]?=some (.bool b):=by
      rw[Array.getD_eq_getD_getElem?]at hv;cases hq:a.tmps[d]? with
      |none=>rw[hq]at hv;simp[undef]at hv
      |some v=>rw[hq]at hv;simp at hv;rw[hv]
     rw[this]
    rw[hy]
    by_cases aHK:b=want
    ·simp[aHK]
    ·simp[aHK]
   ·rename_i hb;have hr:=h.fr d;rw[hb]at hr;obtain⟨arr,hv,_⟩:=hr;have hy:yielded ops a.tmps j=none:=by
     unfold yielded;rw[hd];simp only[bXG];rw[Array.getD_eq_getD_getElem?]at hv;cases hq:a.tmps[d]? with
     |none=>rfl
     |some v=>rw[hq]at hv;simp at hv;rw[hv]
    rw[hy];exact⟨fun h=>(by cases h),fun _=>rfl⟩
   ·exact⟨fun h=>(by cases h),fun h=>(by cases h)⟩
theorem yN.wp(hT:nU P E.T)(hC:jR P E){ρ:Nat->Nat}{done:Nat->Prop}{a:Act}{w:World}{st fP:St}{d:Dt}(hs:yN E ops base d st fP)(h:iU E X w0 ρ (aSB base done) st.fr st.hp a w)(hnd:¬done d.i)
  (K:Act->World->Prop) (Q:Exit->Act->World->Prop) (hK:∀ρ' a' w',iU E X w0 ρ' (aSB base fun i=>done i\/i=d.i) fP.fr fP.hp a' w'->K a' w'):wpOp P ops Q d.i K a w:=by
 obtain⟨h1,h2,h3,rfl⟩:=hs;unfold wpOp;rw[h1];simp only;have Pm:∀i,nS (aSB base done) (base+8*d.i) i->aSB base (fun i=>done i\/i=d.i) i:=by
  rintro i ((hi |⟨j,hj,aFH⟩) |hi)
  ·exact .inl hi
  ·exact .inr ⟨j,.inl hj,aFH⟩
  ·exact .inr ⟨d.i,.inr rfl,hi⟩
 rcases h3 with ⟨hg,he,ht⟩ |⟨hg,hx,hu,ht⟩
 ·rw[if_pos ((Pq h).1 hg)];refine .inl (Yi h h2 hT hC ?_ he K Q (fun ρ' v w' Zg=>hK ρ' _ w' (Zg.rD Pm)));rintro j hj (jB |⟨i,hi,bJB⟩)
  ·omega
  ·have:i=d.i:=by omega
   subst this;exact hnd hi
 ·rw[if_neg (by rw[(Pq h).2 hg];simp)];rw[hx,hu]at hK;exact hK ρ _ w ((h.pure h2 (x:=.Jp []) (v:=undef) ⟨#[],rfl,rfl,fun i y u hy=>by cases hy⟩ (by simp[refs])).rD (fun i hi=>Pm i (.inl hi)))
theorem yC.wpOps(hT:nU P E.T)(hC:jR P E)(Q:Exit->Act->World->Prop):∀(ds:List Dt) (done:Nat->Prop) (ρ:Nat->Nat) (a:Act) (w:World) (st fP:St),yC E ops base ds st fP->iU E X w0 ρ (aSB base done) st.fr st.hp a w ->
  (∀d∈ds,¬done d.i)->(ds.map (·.i)).Nodup->(∀ρ' a' w',iU E X w0 ρ' (aSB base fun i=>done i\/i∈ds.map (·.i)) fP.fr fP.hp a' w'->Q .normal a' w') ->
  Go.wpOps P ops Q (ds.map (·.i)) a w
 | [],done,ρ,a,w,st,fP,h,hs,_,_,hQ=>by
  cases h;exact hQ ρ a w (hs.rD (fun i hi=>hi.imp id fun⟨j,hj,aFH⟩=>⟨j,.inl hj,aFH⟩))
 |d :: ds,done,ρ,a,w,st,fP,h,hs,hnd,yS,hQ=>by
  obtain⟨st1,hd,hr⟩:=h;rw[bVN,wpOps_cons];rw[bVN,List.nodup_cons]at yS;refine hd.wp hT hC hs (hnd d (bVV ..)) _ _ (fun ρ' a' w' rP=>?_);refine yC.wpOps hT hC Q ds _ ρ' a' w' st1 fP hr rP (fun d' yV Vv=>?_) yS.2 (fun ρ2 a2 w2 Nl=>hQ ρ2 a2 w2 (Nl.rD ?_))
  ·rcases Vv with Vv |Vv
   ·exact hnd d' (bVZ _ yV) Vv
   ·exact yS.1 (List.mem_map.2 ⟨d',yV,Vv⟩)
  ·rintro i (hi |⟨j,hj,aFH⟩)
   ·exact .inl hi
   ·refine .inr ⟨j,?_,aFH⟩;rcases hj with (hj |hj) |hj
    ·exact .inl hj
    ·exact .inr (by rw[bVN,hj];exact bVV ..)
    ·exact .inr (by rw[bVN];exact bVZ _ hj)
theorem Dc.ind{p q:Dt}(h:Dc ops p q)(yT:¬(q.o.after.any fun e=>Region.binds .any e&&e.on==p.i)=true)(bIN:¬befB ops p.i 3 q.o=true):aYK ops p q:=by
 unfold Dc indep at h;rw[bXA,bXA]at h;rcases h with (h |h) |h
 ·exact absurd h yT
 ·simp only[bVU]at h;exact⟨h.1.1,h.1.2,h.2⟩
 ·exact absurd h bIN
def Ts(ops:Array Oper)(iF:Array Bool):Prop:=∀(j:Nat) (o:Oper),iF.getD j false=true->ops[j]?=some o->o.after.all (fun e=>!Region.binds .any e||iF.getD e.on false)=true
theorem Ts.bOP{iF:Array Bool}(hc:Ts ops iF){j:Nat}:∀(n:Nat) (o:Oper),o.after.all (fun e=>!Region.binds .any e||iF.getD e.on false)=true->befB ops j n o=true->iF.getD j false=true
 |0,_,_,h=>by cases h
 |n+1,o,ha,h=>by
  unfold befB at h;rw[Array.any_eq_true']at h;obtain⟨e,he,aWH⟩:=h;rw[bVU]at aWH;rw[Array.all_eq_true_iff_forall_mem]at ha;have h1:=ha e he;rw[aWH.1]at h1;simp only[bXO,bXP]at h1;have h2:=aWH.2;rw[bXA]at h2;rcases h2 with h2 |h2
  ·have:e.on=j:=by simpa using h2
   rw[<-this];exact h1
  ·cases ho:ops[e.on]? with
   |none=>rw[ho]at h2;cases h2
   |some o' =>
    rw[ho]at h2;exact hc.bOP n o' (hc e.on o' h1 ho) h2
theorem yC.wpAny(hT:nU P E.T)(hC:jR P E)(Q:Exit->Act->World->Prop)(n:Nat)(hn:n=ops.size):∀(fuel:Nat) (ds:List Dt) (iF:Array Bool) (ρ:Nat->Nat) (a:Act) (w:World) (st fP:St),ds.length=fuel->iF.size=n ->
  (∀i,i∈ds.map (·.i)↔i<n/\iF.getD i true=false)->(ds.map (·.i)).Pairwise (· < ·)->bXN (Dc ops) ds->(∀d∈ds,xR d.i d.o=true)->Ts ops iF ->
  yC E ops base ds st fP->iU E X w0 ρ (aSB base fun i=>iF.getD i false=true) st.fr st.hp a w ->
  (∀ρ' a' w',iU E X w0 ρ' (aSB base fun i=>i<n) fP.fr fP.hp a' w'->Q .normal a' w') ->
  Go.wpAny P .any ops Q fuel iF a w:=by
 intro fuel
 induction fuel with
 |zero =>
  intro ds iF ρ a w st fP hlen bNG Lg _ _ _ _ gF hs hQ;obtain rfl:ds=[]:=bYD hlen;cases gF;have zW:∀i,i<n->iF.getD i true=true:=by
   intro i hi;cases hq:iF.getD i true with
   |true=>rfl
   |false=>exact absurd ((Lg i).2 ⟨hi,hq⟩) (by simp)
  refine⟨?_,hQ ρ a w (hs.rD ?_)⟩
  ·unfold Region.ready;rw[List.filter_eq_nil_iff];intro i hi;rw[bXQ,<-hn]at hi;simp[zW i hi]
  ·rintro i (hi |⟨j,hj,aFH⟩)
   ·exact .inl hi
   ·refine .inr ⟨j,?_,aFH⟩;rcases bWE j n with h |h
    ·exact h
    ·rw[Array.getD_eq_getD_getElem?,Array.getElem?_eq_none (by omega)]at hj;cases hj
 |succ fuel ih =>
  intro ds iF ρ a w st fP hlen bNG Lg aFD aKS aDB aHJ gF hs hQ;have uO:∀d∈ds,ops[d.i]?=some d.o:=by
   have:∀(l:List Dt) (s s':St),yC E ops base l s s'->∀d∈l,ops[d.i]?=some d.o:=by
    intro l
    induction l with
    |nil=>intro s s' _ d hd;cases hd
    |cons d l ih =>
     intro s s' h d' yV;obtain⟨s1,h1,h2⟩:=h;rcases List.mem_cons.1 yV with rfl |yV
     ·exact h1.1
     ·exact ih s1 s' h2 d' yV
   exact this ds st fP gF
  have aKR:∀i,i∈Region.ready .any ops iF↔i<n/\iF.getD i true=false/\∃o,ops[i]?=some o/\o.after.all (fun e=>!Region.binds .any e||iF.getD e.on false)=true:=by
   intro i;unfold Region.ready;rw[List.mem_filter,bXQ,<-hn];constructor
   ·rintro ⟨h1,h2⟩;rw[bVU]at h2;refine⟨h1,by simpa using h2.1,?_⟩;cases ho:ops[i]? with
    |none=>rw[ho]at h2;simp at h2
    |some o=>exact⟨o,rfl,by have:=h2.2;rw[ho]at this;simpa using this⟩
   ·rintro ⟨h1,h2,o,ho,h3⟩;refine⟨h1,?_⟩;rw[bVU];exact⟨by simp[h2],by rw[ho];simpa using h3⟩
  refine⟨fun aVW=>?_,fun i hi=>?_⟩
  ·
   exfalso
   match ds,hlen with
   |d :: ds,_ =>
    have hd:d.i<n/\iF.getD d.i true=false:=(Lg d.i).1 (bVV ..);have:d.i∈Region.ready .any ops iF:=by
     refine(aKR d.i).2 ⟨hd.1,hd.2,d.o,uO d (bVV ..),?_⟩;have he:=aDB d (bVV ..);unfold xR at he;rw[Array.all_eq_true_iff_forall_mem]at he ⊢;intro e bSZ;have:=he e bSZ;rw[bXA]at this ⊢;rcases this with h |h
     ·exact .inl h
     ·right;have jB:e.on<d.i:=bXM h;cases hq:iF.getD e.on false with
      |true=>rfl
      |false =>
       have aCW:iF.getD e.on true=false:=by
        rw[Array.getD_eq_getD_getElem?]at hq ⊢;rw[Array.getElem?_eq_getElem (by omega)]at hq ⊢;exact hq
       have hm:=(Lg e.on).2 ⟨by omega,aCW⟩;rw[bVN,bWW]at hm;rw[bVN,List.pairwise_cons]at aFD;rcases hm with hm |hm
       ·omega
       ·have:=aFD.1 _ hm;omega
    rw[aVW]at this;cases this
  ·obtain⟨h1,h2,o,ho,h3⟩:=(aKR i).1 hi;have bSM:=(Lg i).2 ⟨h1,h2⟩;obtain⟨p,hp,bBL⟩:=List.mem_map.1 bSM;obtain⟨l1,l2,rfl⟩:=List.append_of_mem hp;have bNB:p.o=o:=by have:=uO p hp;rw[bBL,ho]at this;exact(Option.some.inj this).symm
   have bIY:∀q∈l1,aYK ops q p:=by
    intro q hq;have bRP:Dc ops q p:=(List.pairwise_append.1 aKS).2.2 q hq p (bVV ..);have bRU:¬iF.getD q.i false=true:=by
     have bIF:=(Lg q.i).1 (List.mem_map.2 ⟨q,by simp[hq],rfl⟩);have h4:=bIF.2;rw[Array.getD_eq_getD_getElem?,Array.getElem?_eq_getElem (by omega)]at h4;rw[Array.getD_eq_getD_getElem?,Array.getElem?_eq_getElem (by omega)];rw[bYL]at h4 ⊢;rw[h4];simp
    refine bRP.ind (fun Ed=>?_) (fun hb=>bRU (aHJ.bOP 3 p.o (by rw[bNB];exact h3) hb));rw[Array.any_eq_true']at Ed;obtain⟨e,he,aWH⟩:=Ed;rw[bVU]at aWH;rw[Array.all_eq_true_iff_forall_mem]at h3;have:=h3 e (by rw[<-bNB];exact he);rw[aWH.1]at this;simp only[bXO,bXP]at this;have bRM:e.on=q.i:=by simpa using aWH.2
    have bIF:=(Lg q.i).1 (List.mem_map.2 ⟨q,by simp[hq],rfl⟩);rw[bRM]at this;rw[Array.getD_eq_getD_getElem?,Array.getElem?_eq_getElem (by omega)]at this;have h4:=bIF.2;rw[Array.getD_eq_getD_getElem?,Array.getElem?_eq_getElem (by omega)]at h4;rw[bYL]at this h4;rw[this]at h4;cases h4
   obtain⟨st1,aKO,yL⟩:=yC.front bIY gF;rw[<-bBL];have Pl:iF.getD p.i false=false:=by
    have:=h2;rw[<-bBL]at this;rw[Array.getD_eq_getD_getElem?,Array.getElem?_eq_getElem (by omega)]at this ⊢;exact this
   refine aKO.wp hT hC hs (by simp[Pl]) _ _ (fun ρ' a' w' rP=>?_);have aVU:∀x∈(l1 ++ l2).map (·.i),x≠p.i:=by
    intro x hx;rw[bWP,bVN,List.pairwise_append]at aFD;rw[bWP,bWR]at hx;rcases hx with hx |hx
    ·have:=aFD.2.2 x hx p.i (bVV ..);omega
    ·have:=(List.pairwise_cons.1 aFD.2.1).1 x hx;omega
   have bJP:Ts ops (iF.setIfInBounds p.i true):=by
    have Pm:∀k,iF.getD k false=true->(iF.setIfInBounds p.i true).getD k false=true:=by
     intro k hk;rw[Array.getD_eq_getD_getElem?,Array.getElem?_setIfInBounds]
     by_cases aHE:p.i=k
     ·rw[if_pos aHE,aU];rfl
     ·rw[if_neg aHE,<-Array.getD_eq_getD_getElem?];exact hk
    have aHC:∀(o':Oper),o'.after.all (fun e=>!Region.binds .any e||iF.getD e.on false)=true->o'.after.all (fun e=>!Region.binds .any e||(iF.setIfInBounds p.i true).getD e.on false)=true:=by
     intro o' aHD;rw[Array.all_eq_true_iff_forall_mem]at aHD ⊢;intro e he;have:=aHD e he;rw[bXA]at this ⊢;exact this.imp id (Pm _)
    intro j o' hj aHD
    by_cases bCC:p.i=j
    ·have:o'=o:=by rw[<-bCC,bBL,ho]at aHD;exact(Option.some.inj aHD).symm
     rw[this];exact aHC o h3
    ·rw[Array.getD_eq_getD_getElem?,Array.getElem?_setIfInBounds,if_neg bCC,<-Array.getD_eq_getD_getElem?]at hj;exact aHC o' (aHJ j o' hj aHD)
   refine ih (l1 ++ l2) _ ρ' a' w' st1 fP (by simp at hlen ⊢;omega) (by simpa using bNG) ?_ ?_ ?_ ?_ bJP yL (rP.rD ?_) hQ
   ·intro x;have Ua:=Lg x;rw[bWP,bVN,bWR,bWW]at Ua;rw[bWP,bWR];rw[Array.getD_eq_getD_getElem?,Array.getElem?_setIfInBounds];constructor
    ·intro hx;have yT:=aVU x (by rw[bWP,bWR];exact hx);have:=Ua.1 (hx.imp id .inr);refine⟨this.1,?_⟩;rw[if_neg (fun e=>yT e.symm),<-Array.getD_eq_getD_getElem?];exact this.2
    ·rintro ⟨bQT,aTF⟩
     by_cases aYT:p.i=x
     ·rw[if_pos aYT,aU]at aTF;simp at aTF
     ·rw[if_neg aYT,<-Array.getD_eq_getD_getElem?]at aTF;rcases Ua.2 ⟨bQT,aTF⟩with h |h |h
      ·exact .inl h
      ·exact absurd h.symm aYT
      ·exact .inr h
   ·exact aFD.sublist (by simp)
   ·exact aKS.sublist (by simp)
   ·exact fun d hd=>aDB d (by rcases List.mem_append.1 hd with h |h <;> simp[h])
   ·rintro x (hx |⟨j,hj,aFH⟩)
    ·exact .inl hx
    ·refine .inr ⟨j,?_,aFH⟩;show(iF.setIfInBounds p.i true).getD j false=true;rw[Array.getD_eq_getD_getElem?,Array.getElem?_setIfInBounds];rcases hj with hj |hj
     ·by_cases bCC:p.i=j
      ·rw[if_pos bCC,aU];rfl
      ·rw[if_neg bCC,<-Array.getD_eq_getD_getElem?];exact hj
     ·rw[if_pos hj.symm,aU];rfl
theorem Rd(hT:nU P E.T)(hC:jR P E)(hm:P.follows .mixedOrders=true){bPQ:Nat}{draw:Bool}{R:Type}{K:St->Option R}{r:R}{st:St}{ρ:Nat->Nat}{a:Act}{w:World}(hs:iU E X w0 ρ (fun i=>i<st.n) st.fr st.hp a w)
  (he:opsK E draw ops st.n ops.toList 0 [] st K=some r) (Q:Exit->Act->World->Prop) (hQ:∀fP ρ' a' w',K fP=some r->iU E X w0 ρ' (fun i=>i<st.n+8*ops.size) fP.fr fP.hp a' w'->Q .normal a' w') :
  (Code.region bPQ ops draw).wp P Q a w:=by
 obtain⟨ds,fP,hK,gF,bCH,bCN⟩:=Pd E draw ops st.n K r ops.toList 0 [] st (fun k o hk=>by rw[bVQ];simpa using hk) he;have hlen:ds.length=ops.size:=by have:=congrArg List.length bCH;simpa using this
 have Rv:ds.map (·.i)=bXB ops.size:=by rw[bCH,Array.length_toList,List.range_eq_range']
 have qW:∀i,aSB st.n (fun i=>i<ops.size) i->i<st.n+8*ops.size:=by
  rintro i (hi |⟨j,hj,aFH⟩) <;> omega
 have Lg:∀i,i∈ds.map (·.i)↔i<ops.size:=fun i=>by rw[Rv,bXQ]
 cases draw with
 |false =>
  refine wp_region ?_;rw[<-Rv];refine gF.wpOps hT hC Q ds (fun _=>False) ρ a w st fP (hs.rD (fun i hi=>.inl hi)) (fun _ _ h=>h) (by rw[Rv];exact List.nodup_range) (fun ρ' a' w' rP=>hQ fP ρ' a' w' hK (rP.rD (fun i hi=>qW i ?_)));rcases hi with hi |⟨j,hj,aFH⟩
  ·exact .inl hi
  ·exact .inr ⟨j,(Lg j).1 (hj.resolve_left id),aFH⟩
 |true =>
  obtain⟨_,aKS,aDB⟩:=bCN rfl;refine wp_region_any hm ?_;have Xu:iU E X w0 ρ (fun i=>i<st.n) st.fr st.hp a { w with drawn:=w.drawn+1 }:=hs.drew;refine yC.wpAny hT hC Q ops.size rfl ops.size ds _ ρ a _ st fP hlen (by simp) (fun i=>?_) ?_ aKS aDB (fun j o hj _=>?_) gF (Xu.rD (fun i hi=>.inl hi)) (fun ρ' a' w' rP=>hQ fP ρ' a' w' hK (rP.rD qW))
  ·rw[Lg];constructor
   ·intro hi;exact⟨hi,by rw[Array.getD_eq_getD_getElem?,Array.getElem?_replicate,if_pos hi];rfl⟩
   ·exact fun h=>h.1
  ·rw[Rv];exact List.pairwise_lt_range
  ·exfalso;rw[Array.getD_eq_getD_getElem?,Array.getElem?_replicate]at hj;split at hj <;> cases hj
end
end AI
namespace AI
open Go Go.RowKit
section
variable {P:Program} {E:Env} {X:Nat->Prop} {w0:Old}
def Jk(n0:Nat)(st:St)(p s i:Nat)(kv:KV):Prop :=
 kv=(.any,none)\/(bVR 1000000 s=true/\aLO st (s%1000000)=some (i,kv.1)/\kv.2=none/\n0<=i)\/(∃n,kv=(.v (.one (.buf p n)),st.hp i)/\st.fr (s%1000000)=.v (.one (.buf i n)))\/(kv=(.v (.one (.ptr p 0)),st.hp i)/\st.fr (s%1000000)=.v (.one (.ptr i 0)))\/(kv=(st.fr (s%1000000),none)/\∀i∈refs (st.fr (s%1000000)),i<n0)
def claim(s:Nat)(kv:KV):Bool:=kv.2.isSome||(bVR 1000000 s&&(match kv.1 with | .any=>false |_=>true))
theorem aFN{st:St}{s i:Nat}{a:A}(h:aLO st s=some (i,a)):∃n sz f,st.fr s=.v (.one (.buf i n))/\a=.v (.one (.rows sz n f))/\toD st.hp (.v (.one (.buf i n)))=some (.rows sz n f):=by
 unfold aLO at h;split at h
 ·rename_i i' n hf;split at h
  ·rename_i e cs hb;split at h
   ·rename_i hc;cases h;refine⟨n,_,_,hf,rfl,?_⟩;simp only[toD,hb];rw[if_pos hc]
   ·cases h
  ·cases h
 ·cases h
theorem Ek(n0:Nat)(st:St):∀(keep:List Nat) (p:Nat) (seen:List Nat),(∀x,x<n0->x∈seen)->∃Rs:Nat->Nat,(canonGo n0 st keep p seen).length=keep.length /\
  (∀(k s:Nat),keep[k]?=some s->∃kv,(canonGo n0 st keep p seen)[k]?=some kv/\Jk n0 st (p+k) s (Rs k) kv/\(claim s kv=true->Rs k ∉ seen)) /\
  (∀(k k' s s':Nat) (kv Nj:KV),keep[k]?=some s->keep[k']?=some s'->(canonGo n0 st keep p seen)[k]?=some kv->(canonGo n0 st keep p seen)[k']?=some Nj->claim s kv=true->claim s' Nj=true->Rs k=Rs k'->k=k')
 | [],p,seen,_=>⟨fun _=>0,rfl,fun k s h=>by simp at h,fun k k' s s' kv Nj h=>by simp at h⟩
 |s :: keep,p,seen,hn=>by
  have core:∀(kv:KV) (i:Nat) (Kc:List Nat),(∀x∈seen,x∈Kc)->(claim s kv=true->i∈Kc/\i ∉ seen)->Jk n0 st p s i kv->canonGo n0 st (s :: keep) p seen=kv :: canonGo n0 st keep (p+1) Kc ->
    ∃Rs:Nat->Nat,(canonGo n0 st (s :: keep) p seen).length=(s :: keep).length /\
    (∀(k s':Nat),(s :: keep)[k]?=some s'->∃kv,(canonGo n0 st (s :: keep) p seen)[k]?=some kv/\Jk n0 st (p+k) s' (Rs k) kv/\(claim s' kv=true->Rs k ∉ seen)) /\
    (∀(k k' s1 s2:Nat) (kv Nj:KV),(s :: keep)[k]?=some s1->(s :: keep)[k']?=some s2->(canonGo n0 st (s :: keep) p seen)[k]?=some kv->(canonGo n0 st (s :: keep) p seen)[k']?=some Nj->claim s1 kv=true->claim s2 Nj=true->Rs k=Rs k'->k=k'):=by
   intro kv i Kc bMV hi bJE heq;obtain⟨Rs,h1,h2,h3⟩:=Ek n0 st keep (p+1) Kc (fun x hx=>bMV x (hn x hx));rw[heq];have aTI:∀(k s':Nat) (Nj:KV),keep[k]?=some s'->(canonGo n0 st keep (p+1) Kc)[k]?=some Nj->claim s' Nj=true->Rs k ∉ Kc:=by
    intro k s' Nj rP hk hs;obtain⟨bHE,e1,_,e3⟩:=h2 k s' rP;rw[hk]at e1;cases e1;exact e3 hs
   refine⟨fun k=>if k=0 then i else Rs (k-1),by simp[h1],?_,?_⟩
   ·intro k s' hk
    match k with
    |0=>simp at hk;subst hk;exact⟨kv,rfl,by simpa using bJE,fun h=>by simpa using (hi h).2⟩
    |k+1 =>
     simp at hk;obtain⟨Nj,e1,e2,e3⟩:=h2 k s' hk;refine⟨Nj,by simpa using e1,?_,fun h=>?_⟩
     ·simp only[bYM,if_false,bYN];rw[show p+(k+1)=p+1+k by omega];exact e2
     ·simp only[bYM,if_false,bYN];exact fun hm=>e3 h (bMV _ hm)
   ·intro k k' s1 s2 bMC bHE Xu Nl hk Xw hs rP he
    match k,k' with
    |0,0=>rfl
    |0,k'+1 =>
     simp at hk Xw Xu Nl;subst hk;subst Xu;simp at he;exact absurd (hi hs).1 (by rw[he];exact aTI k' s2 bHE Nl Xw rP)
    |k+1,0 =>
     simp at hk Xw Xu Nl;subst Xw;subst Nl;simp at he;exact absurd (hi rP).1 (by rw[<-he];exact aTI k s1 bMC Xu hk hs)
    |k+1,k'+1 =>
     simp at hk Xw he Xu Nl;have:=h3 k k' s1 s2 bMC bHE Xu Nl hk Xw hs rP he;omega
  have Ed:canonGo n0 st (s :: keep) p seen=(.any,none) :: canonGo n0 st keep (p+1) seen->_:=core (.any,none) 0 seen (fun _ h=>h) (fun h=>by simp[claim]at h) (.inl rfl);cases hz:bVR 1000000 s with
  |true =>
   cases hv:aLO st (s%1000000)with
   |none=>exact Ed (by simp only[canonGo,hz,cond_true,hv])
   |some q =>
    obtain⟨i,a⟩:=q;cases Xt:seen.elem i with
    |true=>exact Ed (by simp only[canonGo,hz,cond_true,hv,Xt])
    |false =>
     have Gg:i ∉ seen:=by simpa using Xt
     exact core (a,none) i (i :: seen) (fun _ h=>bVZ _ h) (fun _=>⟨bVV ..,Gg⟩) (.inr (.inl ⟨hz,hv,rfl,bYI fun jB=>Gg (hn i jB)⟩)) (by simp only[canonGo,hz,cond_true,hv,Xt,cond_false])
  |false =>
  have aEU:∀a,claim s (a,none)=true->False:=by
   intro a h;simp[claim,hz]at h
  cases hf:st.fr (s%1000000)with
  |any=>exact Ed (by simp only[canonGo,hz,cond_false,hf])
  |Jp xs=>exact Ed (by simp only[canonGo,hz,cond_false,hf])
  |v x =>
   cases x with
   |agg cs=>exact core (.v (.agg cs),none) 0 seen (fun _ h=>h) (fun h=>(aEU _ h).elim) (.inr (.inr (.inr (.inr ⟨by rw[hf],by rw[hf];intro i hi;cases hi⟩)))) (by simp only[canonGo,hz,cond_false,hf])
   |one l =>
    cases l with
    |s x=>exact core (.v (.one (.s x)),none) 0 seen (fun _ h=>h) (fun h=>(aEU _ h).elim) (.inr (.inr (.inr (.inr ⟨by rw[hf],by rw[hf];intro i hi;cases hi⟩)))) (by simp only[canonGo,hz,cond_false,hf])
    |rows sz n f=>exact core (.v (.one (.rows sz n f)),none) 0 seen (fun _ h=>h) (fun h=>(aEU _ h).elim) (.inr (.inr (.inr (.inr ⟨by rw[hf],by rw[hf];intro i hi;cases hi⟩)))) (by simp only[canonGo,hz,cond_false,hf])
    |Oe cs=>exact core (.v (.one (.Oe cs)),none) 0 seen (fun _ h=>h) (fun h=>(aEU _ h).elim) (.inr (.inr (.inr (.inr ⟨by rw[hf],by rw[hf];intro i hi;cases hi⟩)))) (by simp only[canonGo,hz,cond_false,hf])
    |Ta k ns=>exact core (.v (.one (.Ta k ns)),none) 0 seen (fun _ h=>h) (fun h=>(aEU _ h).elim) (.inr (.inr (.inr (.inr ⟨by rw[hf],by rw[hf];intro i hi;cases hi⟩)))) (by simp only[canonGo,hz,cond_false,hf])
    |Rr i j=>exact Ed (by simp only[canonGo,hz,cond_false,hf])
    |view i off n =>
     cases Xt:bWA i n0 with
     |false=>exact Ed (by simp only[canonGo,hz,hf,Xt,cond_false])
     |true =>
      have jB:i<n0:=by rw[Nat.blt_eq]at Xt;exact Xt
      exact core (.v (.one (.view i off n)),none) 0 seen (fun _ h=>h) (fun h=>(aEU _ h).elim) (.inr (.inr (.inr (.inr ⟨by rw[hf],by rw[hf];intro j hj;simp[refs,refsV,refsL]at hj;omega⟩)))) (by simp only[canonGo,hz,cond_false,hf,Xt,cond_true])
    |buf i n =>
     cases Xt:seen.elem i with
     |true=>exact Ed (by simp only[canonGo,hz,cond_false,hf,Xt,cond_true])
     |false =>
      have Gg:i ∉ seen:=by simpa using Xt
      exact core (.v (.one (.buf p n)),st.hp i) i (i :: seen) (fun _ h=>bVZ _ h) (fun _=>⟨bVV ..,Gg⟩) (.inr (.inr (.inl ⟨n,rfl,hf⟩))) (by simp only[canonGo,hz,hf,Xt,cond_false])
    |ptr i off =>
     match off with
     |0 =>
      cases Xt:seen.elem i with
      |true=>exact Ed (by simp only[canonGo,hz,cond_false,hf,Xt,cond_true])
      |false =>
       have Gg:i ∉ seen:=by simpa using Xt
       exact core (.v (.one (.ptr p 0)),st.hp i) i (i :: seen) (fun _ h=>bVZ _ h) (fun _=>⟨bVV ..,Gg⟩) (.inr (.inr (.inr (.inl ⟨rfl,hf⟩)))) (by simp only[canonGo,hz,hf,Xt,cond_false])
     |off+1=>exact Ed (by simp only[canonGo,hz,cond_false,hf])
theorem Hi(t:Nat):∀(keep:List Nat) (l:List KV),slotGo t keep l=.any\/∃(k s:Nat) (kv:KV),keep[k]?=some s/\t=s%1000000/\l[k]?=some kv/\slotGo t keep l=kv.1
 | [],_=>.inl (by simp[slotGo])
 |_ :: _,[]=>.inl (by simp[slotGo])
 |s :: keep,kv :: l=>by
  simp only[slotGo];cases hb:bVP t (s%1000000)with
  |true=>exact .inr ⟨0,s,kv,rfl,bWD hb,rfl,rfl⟩
  |false =>
   rcases Hi t keep l with h |⟨k,s',Nj,h1,h0,h2,h3⟩
   ·exact .inl h
   ·exact .inr ⟨k+1,s',Nj,by simpa using h1,h0,by simpa using h2,h3⟩
theorem Mj:∀(l:List KV) (i:Nat) (b:jT),blkGo i l=some b->∃kv,l[i]?=some kv/\kv.2=some b
 | [],i,b,h=>by simp[blkGo]at h
 |kv :: l,0,b,h=>⟨kv,rfl,h⟩
 |kv :: l,i+1,b,h=>by
  obtain⟨Nj,h1,h2⟩:=Mj l i b h;exact⟨Nj,by simpa using h1,h2⟩
theorem Qb:∀(l:List KV) (i:Nat) (kv:KV),l[i]?=some kv->blkGo i l=kv.2
 | [],i,kv,h=>by simp at h
 |bQL :: l,0,kv,h=>by simp at h;subst h;rfl
 |bQL :: l,i+1,kv,h=>Qb l i kv (by simpa using h)
theorem Hm(st:St):∀(n i:Nat),(canonIO st n i).length=n
 |0,_=>rfl
 |n+1,i=>by simp[canonIO,Hm st n]
theorem Hn(st:St):∀(n i k:Nat) (r:List KV),k<n->blkGo k (canonIO st n i ++ r)=st.hp (i+k)
 |0,_,_,_,h=>by omega
 |n+1,i,0,r,_=>rfl
 |n+1,i,k+1,r,h=>by
  simp only[canonIO,bXH,blkGo];rw[Hn st n (i+1) k r (by omega)];congr 1;omega
theorem Ej(st:St):∀(n i k:Nat) (r:List KV),blkGo (n+k) (canonIO st n i ++ r)=blkGo k r
 |0,_,k,r=>by simp[canonIO]
 |n+1,i,k,r=>by
  rw[show n+1+k=(n+k)+1 by omega];simp only[canonIO,bXH,blkGo];exact Ej st n (i+1) k r
theorem Gv:∀{n i:Nat},i<n->i∈below n
 |n+1,i,h=>by
  unfold below
  by_cases hi:i=n
  ·subst hi;exact bVV ..
  ·exact bVZ _ (Gv (by omega))
theorem Gq{ρ:Nat->Nat}{al:Nat->Prop}{st:St}{a:Act}{w:World}(h:iU E X w0 ρ al st.fr st.hp a w)(keep:List Nat) :
  ∃ρ',iU E X w0 ρ' (fun i=>i<(mk E.n0 keep (canon E.n0 keep st)).n) (mk E.n0 keep (canon E.n0 keep st)).fr (mk E.n0 keep (canon E.n0 keep st)).hp a w:=by
 obtain⟨n0,Br⟩:∃n0,n0=E.n0:=⟨_,rfl⟩;rw[<-Br];obtain⟨Rs,h1,h2,h3⟩:=Ek n0 st keep n0 (below n0) (fun x hx=>Gv hx);obtain⟨C,hC⟩:∃C,C=canonGo n0 st keep n0 (below n0):=⟨_,rfl⟩;have aYZ:canon n0 keep st=canonIO st n0 0 ++ C:=by rw[hC];rfl
 rw[<-hC]at h1 h2 h3;rw[aYZ];have aLD:(canonIO st n0 0 ++ C).drop n0=C:=by
  have:=bYG (l₁:=canonIO st n0 0) (l₂:=C);rwa [Hm]at this
 obtain⟨vQ,Rw⟩:∃vQ,vQ=(mk n0 keep (canonIO st n0 0 ++ C)).hp:=⟨_,rfl⟩;rw[<-Rw];have Zk:∀q,q<n0->vQ q=st.hp q:=fun q hq=>by
  rw[Rw];have:=Hn st n0 0 q C hq;rw[bVQ]at this;exact this
 have Xx:∀k,vQ (n0+k)=blkGo k C:=fun k=>by rw[Rw];exact Ej st n0 0 k C
 have aZC:∀t,(mk n0 keep (canonIO st n0 0 ++ C)).fr t=slotGo t keep C:=fun t=>by
  show slotGo t keep ((canonIO st n0 0 ++ C).drop n0)=_;rw[aLD]
 have hn:(mk n0 keep (canonIO st n0 0 ++ C)).n=n0+keep.length:=rfl;obtain⟨aGY,bCI⟩:∃aGY:Nat->Nat,aGY=fun q=>if q<n0 then q else Rs (q-n0):=⟨_,rfl⟩
 have aOG:∀q,q<n0->aGY q=q:=fun q hq=>by rw[bCI];simp only;rw[if_pos hq]
 have aHH:∀k,aGY (n0+k)=Rs k:=fun k=>by rw[bCI];simp only;rw[aW];congr 1;omega
 have aHC:∀(k:Nat) (b:jT),blkGo k C=some b->k<keep.length/\st.hp (Rs k)=some b/\n0<=Rs k/\∃kv,C[k]?=some kv/\kv.2=some b:=by
  intro q b hq;obtain⟨kv,hk,hb⟩:=Mj _ q b hq;have jB:q<keep.length:=by have:=aT hk;omega
  obtain⟨s,hs⟩:=bB jB;obtain⟨Nj,e1,e2,e3⟩:=h2 q s hs;rw[hk]at e1;cases e1;refine⟨jB,?_,?_,kv,hk,hb⟩
  ·rcases e2 with rfl |⟨_,_,h9,_⟩ |⟨n,rfl,_⟩ |⟨rfl,_⟩ |⟨rfl,_⟩
   ·cases hb
   ·rw[h9]at hb;cases hb
   ·exact hb
   ·exact hb
   ·cases hb
  ·have:=e3 (by unfold claim;rw[hb];rfl);rcases bWE (Rs q) n0 with h4 |h4
   ·exact absurd (Gv h4) this
   ·exact h4
 have Vt:∀(q:Nat) (b:jT),vQ q=some b->st.hp (aGY q)=some b/\q<n0+keep.length:=by
  intro q b hq;rcases bWE q n0 with h4 |h4
  ·rw[Zk q h4]at hq;exact⟨by rw[aOG q h4];exact hq,by omega⟩
  ·obtain⟨k,rfl⟩:=bWT h4;rw[Xx]at hq;obtain⟨h5,h6,_⟩:=aHC k b hq;exact⟨by rw[aHH];exact h6,by omega⟩
 have sR:∀b,XO X (fun q=>ρ (aGY q)) vQ b->XO X ρ st.hp b:=by
  rintro b (hb |⟨q,bl,h4,h5⟩)
  ·exact .inl hb
  ·exact .inr ⟨aGY q,bl,(Vt q bl h4).1,h5⟩
 have hl:iA (XO X ρ st.hp) w (XO X (fun q=>ρ (aGY q)) vQ) w:=⟨bVO _,fun b _ hx=>⟨rfl,fun hb=>hx (sR b hb)⟩⟩;have key:∀t,wA (fun q=>ρ (aGY q)) vQ (XO X (fun q=>ρ (aGY q)) vQ) w (slotGo t keep C) (a.tmps.getD t undef)/\∀i∈refs (slotGo t keep C),i<n0+keep.length:=by
  intro t;rcases Hi t keep C with he |⟨k,s,kv,hk,bEX,bFG,he⟩
  ·rw[he];exact⟨trivial,by simp[refs]⟩
  ·rw[he];obtain⟨Nj,e1,e2,e3⟩:=h2 k s hk;rw[bFG]at e1;cases e1;have jB:=aT hk;have hr:=h.fr t;have bCW:=Qb _ k kv bFG;unfold Jk at e2;rw[<-bEX]at e2;rcases e2 with rfl |⟨hz,hfz,h9,bOK⟩ |⟨n,rfl,hf⟩ |⟨rfl,hf⟩ |⟨rfl,hf⟩
   ·exact⟨trivial,by simp[refs]⟩
   ·obtain⟨n,sz,f,hf,ha,hd⟩:=aFN hfz;rw[hf]at hr;have aHJ:claim s kv=true:=by unfold claim;rw[hz,ha];simp
    have bRK:=Fh h (u:=[(Rs k,none)]) (fun p hp=>by simp at hp;rw[hp]) hr (fun i hi=>by simp[refs,refsV,refsL]at hi;rw[hi];simp) hd;rw[ha];refine⟨lL.later (d:=.rows sz n f) ⟨bVO _,fun b _ hx=>⟨rfl,fun hb=>hx ?_⟩⟩ bRK,by intro i hi;cases hi⟩;rcases hb with hb |⟨q,bl,h4,h5⟩
    ·exact .inl hb
    ·have h6:=Vt q bl h4;refine .inr ⟨aGY q,bl,?_,h5⟩;simp only[applyUps];rw[fM _ _ ?_]
     ·exact h6.1
     ·intro hq;rcases bWE q n0 with h7 |h7
      ·rw[aOG q h7]at hq;omega
      ·obtain⟨k',rfl⟩:=bWT h7;rw[Xx]at h4;obtain⟨h8,_,_,Nj,Xw,aKV⟩:=aHC k' bl h4;obtain⟨s',rP⟩:=bB h8;rw[aHH]at hq;have:=h3 k' k s' s Nj kv rP hk Xw bFG (by unfold claim;rw[aKV];rfl) aHJ hq;subst this;rw[bFG]at Xw;cases Xw;rw[h9]at aKV;cases aKV
   ·rw[hf]at hr;obtain⟨cap,hv,Bq,hc,aQR⟩:=hr;refine⟨⟨cap,by simp only[aHH];exact hv,Bq,fun blk k1 ns hb Hz=>?_,fun blk cs hb Hz=>?_⟩,?_⟩
    ·rw[Xx,bCW]at hb;have:=hc blk k1 ns hb Hz;simp only[aHH];exact this
    ·rw[Xx,bCW]at hb;have:=aQR blk cs hb Hz;simp only[aHH];exact this
    ·intro i hi;simp[refs,refsV,refsL]at hi;omega
   ·rw[hf]at hr;refine⟨?_,?_⟩
    ·show _=_;simp only[aHH];exact hr
    ·intro i hi;simp[refs,refsV,refsL]at hi;omega
   ·refine⟨wA.later (al:=fun i=>i<n0) hl (fun i hi=>⟨by simp only[aOG i hi],fun b' uZ=>⟨b',by rw[<-Zk i hi];exact uZ,sameShape.refl _,rfl⟩⟩) hf hr,fun i hi=>?_⟩;have:=hf i hi;omega
 refine⟨fun q=>ρ (aGY q),{ fr:=fun t=>by rw[aZC];exact(key t).1,sz:=h.sz,nod:=h.nod,blk:=?_,inj:=?_,alh:=?_,alr:=fun t i hi=>by rw[aZC]at hi;exact(key t).2 i hi,below:=h.below,x0:=h.x0,glob:=h.glob,mg:=h.mg,al0:=fun i hi=>by show i<n0+keep.length;omega,vD:=fun i hi=>by simp only[aOG i (by omega)];exact h.vD i hi }⟩
 ·intro q b hq;have hb:=(Vt q b hq).1;refine⟨?_,(h.blk _ b hb).2.later hl rfl⟩;rcases bWE q n0 with h4 |h4
  ·have:=(h.blk _ b hb).1;simp only[aOG q h4]at this ⊢;exact this
  ·obtain⟨k,rfl⟩:=bWT h4;rw[Xx]at hq;obtain⟨_,_,h6,_⟩:=aHC k b hq;exact .inl ((h.blk _ b hb).1.new (by rw[aHH];omega))
 ·intro q q' b b' hq aCW he;have hb:=(Vt q b hq).1;have uZ:=(Vt q' b' aCW).1;have aQN:=h.inj _ _ b b' hb uZ he;rcases bWE q n0 with h4 |h4
  ·rcases bWE q' n0 with h5 |h5
   ·rw[aOG q h4,aOG q' h5]at aQN;exact aQN
   ·obtain⟨k,rfl⟩:=bWT h5;rw[Xx]at aCW;obtain⟨_,_,h6,_⟩:=aHC k b' aCW;rw[aOG q h4,aHH]at aQN;omega
  ·obtain⟨k,rfl⟩:=bWT h4;rw[Xx]at hq;obtain⟨_,_,h6,kv,hk,bSF⟩:=aHC k b hq;rcases bWE q' n0 with h5 |h5
   ·rw[aOG q' h5,aHH]at aQN;omega
   ·obtain⟨k',rfl⟩:=bWT h5;rw[Xx]at aCW;obtain⟨_,_,_,Nj,Xw,aKV⟩:=aHC k' b' aCW;rw[aHH,aHH]at aQN;obtain⟨s1,Xu⟩:=bB (l:=keep) (i:=k) (by have:=aT hk;omega);obtain⟨s2,Nl⟩:=bB (l:=keep) (i:=k') (by have:=aT Xw;omega);have:=h3 k k' s1 s2 kv Nj Xu Nl hk Xw (by unfold claim;rw[bSF];rfl) (by unfold claim;rw[aKV];rfl) aQN;omega
 ·intro q b hq;exact(Vt q b hq).2
def exitOf:Ex->Exit
 | .normal=>.normal
 | .exit id=>.exit id
 | .ret=>.ret
def KQ{R:Type}(E:Env)(X:Nat->Prop)(w0:Old)(K:Ex->St->Option R)(Q:Exit->Act->World->Prop)(r:R):Prop :=
 ∀(ex:Ex) (st:St) (ρ:Nat->Nat) (a:Act) (w:World),K ex st=some r->iU E X w0 ρ (fun i=>i<st.n) st.fr st.hp a w->Q (exitOf ex) a w
theorem zP{R:Type}{c:Code}{keep:List Nat}{r:R}{Q:Exit->Act->World->Prop}{K:Ex->St->Option R}(bKF:KQ E X w0 K Q r)
  (ih:∀(st:St) (K:Ex->St->Option R) (Q:Exit->Act->World->Prop) (ρ:Nat->Nat) (a:Act) (w:World),iU E X w0 ρ (fun i=>i<st.n) st.fr st.hp a w->evalCode E c st K=some r->KQ E X w0 K Q r->c.wp P Q a w) :
  ∀(n:Nat) (l:List KV) (ρ:Nat->Nat) (a:Act) (w:World),iter (fun rec l=>evalCode E c (mk E.n0 keep l) fun ex fP=>match ex with
    | .normal=>rec (canon E.n0 keep fP)
    | .exit i=>K (.exit i) fP
    | .ret=>K .ret fP) n l=some r->iU E X w0 ρ (fun i=>i<(mk E.n0 keep l).n) (mk E.n0 keep l).fr (mk E.n0 keep l).hp a w->Code.rounds P c Q n a w
 |0,l,ρ,a,w,h,_=>by cases h
 |n+1,l,ρ,a,w,h,hs=>by
  rw[rounds_succ];refine ih (mk E.n0 keep l) _ _ ρ a w hs h ?_;intro ex fP ρ' a' w' he rP;cases ex with
  |normal =>
   obtain⟨ρ2,Nl⟩:=Gq rP keep;exact zP bKF ih n _ ρ2 a' w' he Nl
  |exit i=>exact bKF (.exit i) fP ρ' a' w' he rP
  |ret=>exact bKF .ret fP ρ' a' w' he rP
theorem aLP{α R:Type}{G:(α->Option R)->α->Option R}{x:α}{r:R}(h:fix G x=some r):∃n,iter G n x=some r:=by
 unfold fix at h;split at h
 ·rename_i hex;cases h;exact Classical.choose_spec hex
 ·cases h
theorem aAB(hT:nU P E.T)(hC:jR P E)(hm:P.follows .mixedOrders=true){R:Type}(r:R):∀(c:Code) (st:St) (K:Ex->St->Option R) (Q:Exit->Act->World->Prop) (ρ:Nat->Nat) (a:Act) (w:World),
  iU E X w0 ρ (fun i=>i<st.n) st.fr st.hp a w->evalCode E c st K=some r->KQ E X w0 K Q r->c.wp P Q a w:=by
 intro c
 induction c with
 |skip=>intro st K Q ρ a w hs he hK;exact wp_skip (hK .normal st ρ a w he hs)
 |label l=>intro st K Q ρ a w hs he hK;exact wp_label (hK .normal st ρ a w he hs)
 |exit id=>intro st K Q ρ a w hs he hK;exact wp_exit (hK (.exit id) st ρ a w he hs)
 |ret=>intro st K Q ρ a w hs he hK;exact wp_ret (hK .ret st ρ a w he hs)
 |region id ops draw =>
  intro st K Q ρ a w hs he hK;unfold evalCode at he;exact Rd hT hC hm hs he Q (fun fP ρ' a' w' hk rP=>hK .normal _ ρ' a' w' hk rP)
 |seq x y bER bAT =>
  intro st K Q ρ a w hs he hK;unfold evalCode at he;refine wp_seq (bER st _ _ ρ a w hs he ?_);intro ex fP ρ' a' w' hk rP;cases ex with
  |normal =>
   simp only at hk;split at hk
   ·rename_i keep _;obtain⟨ρ2,Nl⟩:=Gq rP keep;unfold Bi at hk;exact bAT _ K Q ρ2 a' w' Nl hk hK
   ·exact bAT fP K Q ρ' a' w' rP hk hK
  |exit i=>exact hK (.exit i) fP ρ' a' w' hk rP
  |ret=>exact hK .ret fP ρ' a' w' hk rP
 |cond c x y bER bAT =>
  intro st K Q ρ a w hs he hK;unfold evalCode at he;split at he
  ·rename_i s;split at he
   ·rename_i t ht;have hr:=hs.fr s;rw[ht]at hr;have hv:a.eval (.tmp s)=.bool t:=hr.1;have e0:Ay st.fr s (Bo (.bool t))=st.fr:=aAX st.fr s t ht;refine wp_cond hv ?_;cases t with
    |true=>simp only[cond_true,e0]at he;exact bER _ K Q ρ a w hs he hK
    |false=>simp only[cond_false,e0]at he;exact bAT _ K Q ρ a w hs he hK
   ·cases he
  ·rename_i t;refine wp_cond (t:=t) rfl ?_;cases t with
   |true=>simp only[cond_true]at he;exact bER _ K Q ρ a w hs he hK
   |false=>simp only[cond_false]at he;exact bAT _ K Q ρ a w hs he hK
  ·cases he
 |block id c ih =>
  intro st K Q ρ a w hs he hK;unfold evalCode at he;refine wp_block (ih st _ _ ρ a w hs he ?_);intro ex fP ρ' a' w' hk rP;cases ex with
  |normal=>exact hK .normal fP ρ' a' w' hk rP
  |ret=>exact hK .ret fP ρ' a' w' hk rP
  |exit i =>
   simp only[exitOf,Exit.inBlock];simp only at hk;cases hb:bVP i id with
   |true =>
    rw[hb]at hk;rw[if_pos (bWD hb)];exact hK .normal fP ρ' a' w' hk rP
   |false =>
    rw[hb]at hk;rw[if_neg (bXS hb)];exact hK (.exit i) fP ρ' a' w' hk rP
 |loop c ih =>
  intro st K Q ρ a w hs he hK;unfold evalCode at he;obtain⟨ρ2,Nl⟩:=Gq hs (E.keep (keyOf c));split at he
  ·rename_i n _;exact wp_loop_rounds n (zP hK ih n _ ρ2 a w he Nl)
  ·obtain⟨n,hn⟩:=aLP he;exact wp_loop_rounds n (zP hK ih n _ ρ2 a w hn Nl)
 |rangeFunc f ps x y _ _=>intro st K Q ρ a w hs he hK;unfold evalCode at he;cases he
 |scope c ih =>
  intro st K Q ρ a w hs he hK;unfold evalCode at he;refine wp_scope_straight (ih st K _ ρ a w hs he ?_);intro ex fP ρ' a' w' hk rP;have:=hK ex fP ρ' a' w' hk rP;cases ex <;> exact this
 |goto l=>intro st K Q ρ a w hs he hK;unfold evalCode at he;cases he
 |refuse bLT=>intro st K Q ρ a w hs he hK;unfold evalCode at he;cases he
end
end AI
end Go.Proofs.YtplagoepbghhpaaGreatDoor
end
