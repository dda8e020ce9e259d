/- Contracts. -/
import Derived.WalkKit
import Derived.Laws.CopyOwn
import Derived.LoopN
import Derived.Laws.StructEq
import Derived.Scope
set_option linter.unusedVariables false
set_option linter.unusedSimpArgs false
noncomputable section
open Go.IntKind(i8 i16 i32 i64 u8 u16 u32 u64)
open List renaming map_cons->cBD,getElem?_map->cBI,getElem?_take_of_lt->cBJ,mem_cons_self->cBL,mem_of_getElem?->cBN,mem_cons_of_mem->cBP,getElem?_drop->cBR,getElem?_eq_getElem->cBV,mem_singleton->cBW,map_nil->cBX,map_toArray->cBZ,getElem?_of_mem->cCE,map_append->cCF,mem_append->cCH,length_append->cCI,getElem?_append_left->cCK,getElem?_append_right->cCL,mem_cons->cCM,mapM_cons->cCN,map_congr_left->cCP,range->cCR,length_map->cCS,size_toArray->cCU,take_left->cCV,cons_append->cCX,getD->cCY,append_assoc->cCZ,getElem?_eq_none->cDA,getElem?_cons_succ->cDB,Pairwise->cDD,mem_range->cDG,replicate->cDH,eq_nil_of_length_eq_zero->cDT,length_take->cDU,mem_append_right->cDV,drop_left->cDW,flatMap_def->cEA
open Nat renaming le_refl->cBE,beq->cBF,zero_add->cBG,ble->cBH,mul_one->cBO,blt->cBQ,eq_of_beq_eq_true->cBT,lt_or_ge->cBU,add_mul->cBY,le_trans->cCA,lt_of_lt_of_le->cCB,add_zero->cCC,exists_eq_add_of_le->cCJ,mul_le_mul_right->cCT,le_of_ble_eq_true->cDC,ne_of_beq_eq_false->cDI,le_mul_of_pos_right->cDN,mul_le_mul_left->cDS,le_of_not_lt->cDY,add_one_ne_zero->cEC,add_sub_cancel->cED
open Bool renaming and_eq_true->cBK,not_eq_true'->cCO,or_eq_true->cCQ,not_true->cDE,false_or->cDF
open Option renaming bind_assoc->cBM,map_some->cBS,map_eq_some_iff->cCG,bind_some->cCW,bind_eq_bind->cDJ,pure_def->cDK,bind_eq_some_iff->cDL,map_none->cDP,getD_some->cEB
open Int renaming mul_le_mul_of_nonneg_right->cDO
namespace Go.Proofs.YtplagoepbghhpaaGreatDoor
theorem aQ{α:Sort _}{c:Prop}[Decidable c]{a b:α}(h:c:=by omega):ite c a b=a:=if_pos h
theorem aO{α:Sort _}{c:Prop}[Decidable c]{a b:α}(h:¬c:=by omega):ite c a b=b:=if_neg h
theorem cY{a n:Nat}(h:0<a:=by omega):0<a^n:=Nat.pow_pos h
theorem fK{b m n:Nat}(h:0<b:=by omega)(h':m<=n:=by omega):b^m<=b^n:=Nat.pow_le_pow_right h h'
namespace M
open Go
theorem Jo(n:Int):i64.wrap n=if n%18446744073709551616>=9223372036854775808 then n%18446744073709551616-18446744073709551616 else n%18446744073709551616:=by
 show(if(true&&decide (n%18446744073709551616>=9223372036854775808))=true then n%18446744073709551616-18446744073709551616 else n%18446744073709551616)=_;simp only[Bool.true_and,decide_eq_true_eq]
theorem wrap_i64{n:Int}(h:-9223372036854775808<=n:=by omega)(h':n<9223372036854775808:=by omega):i64.wrap n=n:=by
 rw[Jo];split <;> omega
theorem fM(n:Int):u64.wrap n=n%18446744073709551616:=by
 show(if(false&&decide (n%18446744073709551616>=9223372036854775808))=true then n%18446744073709551616-18446744073709551616 else n%18446744073709551616)=_;simp
theorem wrap_u64{n:Int}(h:0<=n:=by omega)(h':n<18446744073709551616:=by omega):u64.wrap n=n:=by
 rw[fM];omega
theorem wrap_u32(n:Int):u32.wrap n=n%4294967296:=by
 show(if(false&&decide (n%4294967296>=2147483648))=true then n%4294967296-4294967296 else n%4294967296)=_;simp
end M
namespace AI
open Go Go.RowKit
def leB:Int->Int->Bool
 | .ofNat m,.ofNat n=>cBH m n
 | .negSucc _,.ofNat _=>true
 | .ofNat _,.negSucc _=>false
 | .negSucc m,.negSucc n=>cBH n m
theorem Lt(a b:Int):leB a b=true↔a<=b:=by
 cases a <;> cases b <;> simp only[leB,Nat.ble_eq,Bool.false_eq_true,true_iff,false_iff,Int.ofNat_eq_natCast] <;> omega
instance (priority:=2000) decLeI (a b:Int):Decidable (a<=b):=match h:leB a b with
 |true=>isTrue ((Lt a b).1 h)
 |false=>isFalse fun h'=>by rw[(Lt a b).2 h']at h;cases h
instance (priority := 2000) decLtI (a b : Int) : Decidable (a < b) := match h : leB b a with
  | true => isFalse fun h' => by have := (Lt b a).1 h; omega
  | false => isTrue (by have h1 : ¬ b ≤ a := fun h' => by rw [(Lt b a).2 h'] at h; cases h
                        omega)
inductive S where
 |sc (v:Value)
 |ints (k:IntKind) (ns:List Int)
 |bot
 |pt (x:Value)
 |Vu (f:FuncId) (xs:List Value)
inductive L where
 |s (x:S)
 |rows (sz n:Nat) (f:Nat->List S)
 |Rg (cs:List S)
 |Wa (k:IntKind) (ns:List Int)
 |ptr (id off:Nat)
 |Uu (id i:Nat)
 |buf (id n:Nat)
 |view (id off n:Nat)
inductive V where
 |one (l:L)
 |agg (cs:List S)
inductive A where
 |v (x:V)
 |Mf (xs:List V)
 |any
inductive rH where
 |ints (k:IntKind) (ns:List Int)
 |cells (cs:List S)
structure kY where
 e:TypeId
 cont:rH
structure St where
 fr:Nat->A
 hp:Nat->Option kY
 n:Nat
inductive D where
 |s (x:S)
 |rows (sz n:Nat) (f:Nat->List S)
 |agg (cs:List S)
 |own (e:TypeId) (k:IntKind) (ns:List Int)
 |io (e:TypeId) (k:IntKind) (ns:List Int) (off n:Nat)
 |back (i off n:Nat)
inductive TK where
 |bool
 |int (k:IntKind)
 |float (k:FloatKind)
 |other
 |struct (fs:List (Nat×Nat×Bool))
 |arr (len rJ:Nat) (eagg:Bool)
 |slice (elem:TypeId)
 |str
structure TI where
 size:Nat
 bytes:Nat
 zero:List Value
 kind:TK
def TK.isAgg:TK->Bool
 | .struct _=>true
 | .arr _ _ _=>true
 |_=>false
abbrev Dr(v:Value):A:=.v (.one (.s (.sc v)))
abbrev Cy{α:Type}(f:Nat->α)(d:Nat)(a:α):Nat->α:=fun i=>bif cBF i d then a else f i
def bitsI0(op:BinOp)(k:IntKind)(x y:Int):Int :=
 match op with
 | .and=>k.wrap (BitVec.ofInt k.bits x &&& BitVec.ofInt k.bits y).toNat
 | .or=>k.wrap (BitVec.ofInt k.bits x |||BitVec.ofInt k.bits y).toNat
 | .xor=>k.wrap (BitVec.ofInt k.bits x ^^^ BitVec.ofInt k.bits y).toNat
 |_=>k.wrap (BitVec.ofInt k.bits x &&& ~~~(BitVec.ofInt k.bits y)).toNat
theorem aAC:∃f:BinOp->IntKind->Int->Int->Int,f=bitsI0:=⟨_,rfl⟩
def fO:BinOp->IntKind->Int->Int->Int:=Classical.choose aAC
theorem wS:fO=bitsI0:=Classical.choose_spec aAC
def binK{R:Type}(op:BinOp)(x y:Value)(K:Value->Option R):Option R :=
 match x,y with
 | .int k a,.int k' b =>
  match op with
  | .shl=>if b<0 then none else K (.int k (k.wrap (a*((2^(min b.toNat k.bits):Nat):Int))))
  | .shr=>if b<0 then none else K (.int k (a/((2^(min b.toNat k.bits):Nat):Int)))
  | .add=>if k=k' then K (.int k (k.wrap (a+b)))else none
  | .sub=>if k=k' then K (.int k (k.wrap (a-b)))else none
  | .mul=>if k=k' then K (.int k (k.wrap (a*b)))else none
  | .quo=>if k=k' then(if b=0 then none else K (.int k (k.wrap (a.tdiv b))))else none
  | .rem=>if k=k' then(if b=0 then none else K (.int k (a.tmod b)))else none
  | .and=>if k=k' then K (.int k (fO .and k a b))else none
  | .or=>if k=k' then K (.int k (fO .or k a b))else none
  | .xor=>if k=k' then K (.int k (fO .xor k a b))else none
  | .andNot=>if k=k' then K (.int k (fO .andNot k a b))else none
  | .eql=>if k=k' then K (.bool (a==b))else none
  | .neq=>if k=k' then K (.bool (a !=b))else none
  | .lss=>if k=k' then K (.bool (decide (a<b)))else none
  | .leq=>if k=k' then K (.bool (decide (a<=b)))else none
  | .gtr=>if k=k' then K (.bool (decide (b<a)))else none
  | .geq=>if k=k' then K (.bool (decide (b<=a)))else none
 | .float k a,.float k' b =>
  match op with
  | .add=>if k=k' then(k.format.add a b).bind fun r=>K (.float k r)else none
  | .sub=>if k=k' then(k.format.sub a b).bind fun r=>K (.float k r)else none
  | .mul=>if k=k' then(k.format.mul a b).bind fun r=>K (.float k r)else none
  | .quo=>if k=k' then(k.format.div a b).bind fun r=>K (.float k r)else none
  | .eql=>if k=k' then K (.bool (k.format.order a b==some .eq))else none
  | .neq=>if k=k' then K (.bool (k.format.order a b !=some .eq))else none
  | .lss=>if k=k' then K (.bool (k.format.order a b==some .lt))else none
  | .leq=>if k=k' then K (.bool (k.format.order a b==some .lt||k.format.order a b==some .eq))else none
  | .gtr=>if k=k' then K (.bool (k.format.order a b==some .gt))else none
  | .geq=>if k=k' then K (.bool (k.format.order a b==some .gt||k.format.order a b==some .eq))else none
  |_=>none
 | .bool a,.bool b =>
  match op with
  | .eql=>K (.bool (a==b))
  | .neq=>K (.bool (a !=b))
  |_=>none
 |_,_=>none
def boolT(t:Option TI)(a:Value):Bool:=match a with
 | .bool _=>match t with
  |some ⟨_,_,_,.bool⟩=>true
  |_=>false
 |_=>true
def unK{R:Type}(op:UnOp)(x:Value)(K:Value->Option R):Option R :=
 match op,x with
 | .neg,.int k n=>K (.int k (k.wrap (0-n)))
 | .xor,.int k n=>K (.int k (fO .xor k (if k.signed then -1 else k.max) n))
 | .neg,.float k b=>K (.float k (Op.negFloat k b))
 | .not,.bool b=>K (.bool (!b))
 |_,_=>none
def convK{R:Type}(dst:TK)(x:Value)(K:Value->Option R):Option R :=
 match dst,x with
 | .int k,.int _ n=>K (.int k (k.wrap n))
 | .float k,.int _ n=>K (.float k (k.nearest n))
 | .int k,.float s b=>((s.decode b).toInt .zero).bind fun n=>if k.min<=n/\n<=k.max then K (.int k n)else none
 | .float k,.float s b=>if s=k then K (.float k b)else none
 |_,_=>none
def refsL:L->List Nat
 | .ptr id _=>[id]
 | .Uu id _=>[id]
 | .buf id _=>[id]
 | .view id _ _=>[id]
 |_=>[]
def refsV:V->List Nat
 | .one l=>refsL l
 | .agg _=>[]
def refs:A->List Nat
 | .v x=>refsV x
 | .Mf xs=>xs.flatMap refsV
 | .any=>[]
def cellsOf(hp:Nat->Option kY):A->Option (List S×List (Nat×Option kY))
 | .v (.agg cs)=>some (cs,[])
 | .v (.one (.s x))=>some ([x],[])
 | .v (.one (.buf id _))=>match hp id with
  |some ⟨_,.ints k ns⟩=>some ([.ints k ns],[(id,none)])
  |_=>none
 | .v (.one (.view id off n))=>match hp id with
  |some ⟨_,.ints k ns⟩=>some ([.ints k ((ns.drop off).take n)],[(id,none)])
  |_=>none
 |_=>none
def toD(hp:Nat->Option kY):A->Option D
 | .v (.agg cs)=>some (.agg cs)
 | .v (.one (.s x))=>some (.s x)
 | .v (.one (.rows sz n f))=>some (.rows sz n f)
 | .v (.one (.buf id n))=>match hp id with
  |some ⟨_,.ints k ns⟩=>some (.s (.ints k ns))
  |some ⟨_,.cells cs⟩=>if n*(cs.length/n)=cs.length/\0<n then some (.rows (cs.length/n) n fun i=>(cs.drop (i*(cs.length/n))).take (cs.length/n))else none
  |none=>none
 | .v (.one (.view id off n))=>match hp id with
  |some ⟨_,.ints k ns⟩=>some (.s (.ints k ((ns.drop off).take n)))
  |_=>none
 |_=>none
def setAt(cs:List S)(off:Nat)(new:List S):List S:=cs.take off ++ (new ++ cs.drop (off+new.length))
def fillK{R:Type}(hp:Nat->Option kY)(place:Nat->Option (Nat×Nat))(ev:Operand->A):List (Nat×Operand)->List S->List (Nat×Option kY)->(List S->List (Nat×Option kY)->Option R)->Option R
 | [],cs,aSE,K=>K cs aSE
 | (i,x) :: rest,cs,aSE,K =>
  match place i,cellsOf hp (ev x)with
  |some (off,size),some (new,u)=>if new.length=size/\off+new.length<=cs.length then fillK hp place ev rest (setAt cs off new) (aSE ++ u) K else none
  |_,_=>none
def partOf(ti:TI)(cs:List S)(off:Nat):Option V :=
 if _g:ti.kind.isAgg=true then(if _h:off+ti.size<=cs.length then some (.agg ((cs.drop off).take ti.size))else none)
 else match cs[off]? with
  |some c=>some (.one (.s c))
  |none=>none
def allInts(k:IntKind):List S->Option (List Int)
 | []=>some []
 | .sc (.int k' n) :: r=>if _h:k=k' then(allInts k r).map (n :: ·)else none
 |_ :: _=>none
def intsOf(hp:Nat->Option kY)(k:IntKind):A->Option (List Int)
 | .v (.one (.s (.ints k' ns)))=>if _h:k=k' then some ns else none
 | .v (.one (.s (.sc (.slice none 0 0))))=>some []
 | .v (.one (.buf id _))=>match hp id with
  |some ⟨_,.ints k' ns⟩=>if _h:k=k' then some ns else none
  |_=>none
 | .v (.one (.view id off n))=>match hp id with
  |some ⟨_,.ints k' ns⟩=>if _h:k=k' then some ((ns.drop off).take n)else none
  |_=>none
 |_=>none
def room:Int:=8796093022208
def takeIn(keep:Bool)(id:Nat):D->V×List (Nat×Option kY)
 | .s x=>(.one (.s x),[])
 | .rows sz n f=>(.one (.rows sz n f),[])
 | .agg cs=>(.agg cs,[])
 | .own e k ns=>bif keep then(.one (.buf id ns.length),[(id,some ⟨e,.ints k ns⟩)])else(.one (.s (.ints k ns)),[])
 | .io _ _ _ _ _=>(.one (.s .bot),[])
 | .back i off n=>(.one (.view i off n),[])
def takeAll(keep:Bool)(id:Nat):List D->List V×List (Nat×Option kY)
 | []=>([],[])
 |d :: r=>((takeIn keep id d).1 :: (takeAll keep (id+1) r).1,(takeIn keep id d).2 ++ (takeAll keep (id+1) r).2)
def La:S->Bool
 | .ints _ _=>true
 | .bot=>true
 | .pt _=>true
 | .Vu _ _=>true
 | .sc (.slice (some _) _ _)=>true
 |_=>false
def shares:D->Bool
 | .s x=>La x
 | .rows _ _ _=>true
 | .agg cs=>cs.any La
 | .own _ _ _=>false
 | .io _ _ _ _ _=>true
 | .back _ _ _=>false
structure Env where
 T:TypeId->Option TI
 C:FuncId->List D->Option (Prop×List D)
 ext:FuncId->List Value->Option (Prop×List Value)
 glob:Nat->Option (IntKind×List Int)
 nt:Nat
 own:List Nat
 keep:Nat->List Nat
 roll:Nat->Option Nat
 cut:Nat->Option (List Nat)
 n0:Nat:=0
 io:List Nat:=[]
 ioF:FuncId->List Nat:=fun _=>[]
 wide:Option IntKind:=none
 short:Bool:=false
def wideS(w:Option IntKind)(v:Value):S:=match w with
 |none=>.sc v
 |some k=>match v with
  | .slice none 0 0=>.ints k []
  |v=>.sc v
def evA(E:Env)(fr:Nat->A):Operand->A
 | .tmp t=>fr t
 | .const v=>if _h:v.oneCell'=true then Dr v else .any
 | .global g=>match E.glob g with
  |some (k,ns)=>.v (.one (.Wa k ns))
  |none=>.any
 | .func f=>Dr (.func (.func f) #[] #[])
def funOf:A->Option FuncId
 | .v (.one (.s (.sc (.func (.func f) ⟨[]⟩ ⟨[]⟩))))=>some f
 |_=>none
def cloOf:A->Option (FuncId×List Value)
 | .v (.one (.s (.Vu f xs)))=>some (f,xs)
 |_=>none
abbrev bUV(x:Value):A:=.v (.one (.s (.pt x)))
abbrev rL:=List (Nat×Option kY)
def capsOf(hp:Nat->Option kY):List A->Option (List Value×rL)
 | []=>some ([],[])
 | .v (.one (.ptr i 0)) :: r=>match hp i,capsOf hp r with
  |some ⟨_,.cells [.sc x]⟩,some (xs,u)=>some (x :: xs,(i,none) :: u)
  |_,_=>none
 |_=>none
def bndA(d:Int):Option A->Option Int
 |none=>some d
 |some (.v (.one (.s (.sc (.int _ n)))))=>some n
 |_=>none
def sliceK{R:Type}(len:Nat)(lo hi mx:Option A)(K:Nat->Nat->Option R):Option R :=
 match bndA 0 lo,bndA len hi,mx with
 |some l,some h,none=>if 0<=l/\l<=h/\h<=len then K l.toNat h.toNat else none
 |some l,some h,some mx=>match hi,bndA len (some mx)with
  |some _,some m=>if 0<=l/\l<=h/\h<=m/\m<=len then K l.toNat h.toNat else none
  |_,_=>none
 |_,_,_=>none
abbrev aB{R:Type}(b:Bool)(x y:Option R):Option R:=bif b then x else y
def splitN{R:Type}(n:Int):Nat->Nat->(Nat->Option R)->Option R
 |0,_,_=>none
 |m+1,j,K=>aB (decide (n=(j:Int))) (K j) (splitN n m (j+1) K)
def idxK{R:Type}(hp:Nat->Option kY)(t:TI)(rJ:Nat)(x:A)(n:Int)(K:A->Option R):Option R :=
 match x with
 | .v (.one (.s (.ints k ns)))=>if rJ=1 then(if 0<=n/\n<(ns.length:Int)then K (.v (.one (.Rg [.sc (.int k (ns.getD n.toNat 0))])))else none)else none
 | .v (.one (.buf id m))=>match hp id with
  |some ⟨_,.ints _ _⟩=>if rJ=1 then(if 0<=n/\n<(m:Int)then K (.v (.one (.Uu id n.toNat)))else none)else none
  |some ⟨_,.cells _⟩=>if 0<=n/\n<(m:Int)then K (.v (.one (.ptr id (n.toNat*rJ))))else none
  |none=>none
 | .v (.one (.view id off m))=>match hp id with
  |some ⟨_,.ints _ _⟩=>if rJ=1 then(if 0<=n/\n<(m:Int)then K (.v (.one (.Uu id (off+n.toNat))))else none)else none
  |_=>none
 | .v (.one (.rows sz m f))=>if sz=rJ then(if 0<=n/\n<(m:Int)then K (.v (.one (.Rg (f n.toNat))))else none)else none
 | .v (.one (.ptr id off))=>match t.kind with
  | .arr len _ _=>bif cBH len 8 then splitN n len 0 (fun j=>K (.v (.one (.ptr id (off+j*rJ)))))else if 0<=n/\n<(len:Int)then K (.v (.one (.ptr id (off+n.toNat*rJ))))else none
  |_=>none
 | .v (.one (.Wa k ns))=>match t.kind with
  | .arr len _ _=>if ns.length=len/\rJ=1 then(if 0<=n/\n<(len:Int)then K (.v (.one (.Rg [.sc (.int k (ns.getD n.toNat 0))])))else none)else none
  |_=>none
 |_=>none
def idxS{R:Type}(sh:Bool)(hp:Nat->Option kY)(t:TI)(rJ:Nat)(x:A)(n:Int)(K:A->Option R):Option R:=match sh,x with
 |true,.v (.one (.buf id m))=>match hp id with
  |some ⟨_,.cells cs⟩=>splitN n (cs.length/rJ) 0 fun j=>idxK hp t rJ (.v (.one (.buf id m))) (j:Int) K
  |_=>idxK hp t rJ (.v (.one (.buf id m))) n K
 |_,x=>idxK hp t rJ x n K
def intArg:A->Option (IntKind×Int)
 | .v (.one (.s (.sc (.int k n))))=>some (k,n)
 |_=>none
def foldMM(op:BinOp)(k:IntKind):Int->List A->Option Int
 |n,[]=>some n
 |n,.v (.one (.s (.sc (.int k' m)))) :: r=>if _h:k=k' then foldMM op k (match op with | .gtr=>if m>n then m else n |_=>if m<n then m else n) r else none
 |_,_=>none
def lenA:A->Option Nat
 | .v (.one (.s (.ints _ ns)))=>some ns.length
 | .v (.one (.s (.sc (.slice none 0 0))))=>some 0
 | .v (.one (.buf _ n))=>some n
 | .v (.one (.view _ _ n))=>some n
 | .v (.one (.rows _ n _))=>some n
 |_=>none
def argVals:List A->Option (List Value)
 | []=>some []
 | .v (.one (.s (.sc v))) :: r=>(argVals r).map (v :: ·)
 |_ :: _=>none
def Jq(s:ByteArray)(n:Int):Int:=match s[n.toNat]? with
 |some b=>b.toNat
 |none=>0
def bEU:List Value->A
 | [v]=>Dr v
 |vs=>.Mf (vs.map fun v=>.one (.s (.sc v)))
def keepOf(E:Env)(o:Oper):Bool:=match o.dst with
 |some d=>E.own.contains d
 |none=>false
open Classical in
def aM {R:Type} (g:Prop) (a:Option R):Option R:=if g then a else none
def aD{α R:Type}(x:α)(k:α->Option R):Option R:=k x
theorem aG{α R:Type}(x:α)(k:α->Option R):aD x k=k x:=rfl
def shS{R:Type}(s:S)(K:S->Option R):Option R:=match s with
 | .sc (.int k n)=>aD n fun n=>K (.sc (.int k n))
 | .sc (.bool b)=>aD b fun b=>K (.sc (.bool b))
 | .sc (.float k b)=>aD b fun b=>K (.sc (.float k b))
 | .ints k ns=>aD ns fun ns=>K (.ints k ns)
 |s=>K s
def shCs{R:Type}:List S->(List S->Option R)->Option R
 | [],K=>K []
 |s :: r,K=>shS s fun s=>shCs r fun r=>K (s :: r)
def shD{R:Type}(d:D)(K:D->Option R):Option R:=match d with
 | .s x=>shS x fun x=>K (.s x)
 | .agg cs=>shCs cs fun cs=>K (.agg cs)
 | .own e k ns=>aD ns fun ns=>K (.own e k ns)
 | .io e k ns off n=>aD ns fun ns=>K (.io e k ns off n)
 |d=>K d
def shDs{R:Type}:List D->(List D->Option R)->Option R
 | [],K=>K []
 |d :: r,K=>shD d fun d=>shDs r fun r=>K (d :: r)
theorem aNC{R:Type}(s:S)(K:S->Option R):shS s K=K s:=by
 unfold shS;split <;> rfl
theorem aFI{R:Type}:∀(cs:List S) (K:List S->Option R),shCs cs K=K cs
 | [],_=>rfl
 |s :: r,K=>by unfold shCs;rw[aNC,aFI r]
theorem aYY{R:Type}(d:D)(K:D->Option R):shD d K=K d:=by
 unfold shD;split
 ·exact aNC _ _
 ·exact aFI _ _
 ·rfl
 ·rfl
 ·rfl
theorem Fx{R:Type}:∀(ds:List D) (K:List D->Option R),shDs ds K=K ds
 | [],_=>rfl
 |d :: r,K=>by unfold shDs;rw[aYY,Fx r]
def Rh(xs ys:List Nat):Bool:=xs.all fun x=>!(ys.elem x)
def nodup:List Nat->Bool
 | []=>true
 |x :: r=>!(r.elem x)&&nodup r
def toIO(hp:Nat->Option kY):A->Option (Nat×D)
 | .v (.one (.buf id n))=>match hp id with
  |some ⟨e,.ints k ns⟩=>some (id,.io e k ns 0 n)
  |_=>none
 | .v (.one (.view id off n))=>match hp id with
  |some ⟨e,.ints k ns⟩=>some (id,.io e k ns off n)
  |_=>none
 |_=>none
def argsIO(ps:List Nat)(hp:Nat->Option kY):Nat->List A->Option (List (Nat×Nat)×List D)
 |_,[]=>some ([],[])
 |i,a :: r=>bif ps.elem i then(match toIO hp a with
   |some (id,d)=>match argsIO ps hp (i+1) r with
    |some (us,ds)=>some ((i,id) :: us,d :: ds)
    |none=>none
   |none=>none)
  else(match toD hp a with
   |some d=>match argsIO ps hp (i+1) r with
    |some (us,ds)=>some (us,d :: ds)
    |none=>none
   |none=>none)
def qN(ps:List Nat):Nat->List A->List Nat
 |_,[]=>[]
 |i,a :: r=>(bif ps.elem i then []else refs a) ++ qN ps (i+1) r
def leqN:List Nat->List Nat->Bool
 | [],[]=>true
 |a :: r,b :: s=>cBF a b&&leqN r s
 |_,_=>false
def backIO:List (Nat×Nat)->List D->Option rL
 | [],[]=>some []
 | (_,id) :: us,.io e k ns _ _ :: ds=>match backIO us ds with
  |some u=>some ((id,some ⟨e,.ints k ns⟩) :: u)
  |none=>none
 |_,_=>none
def idAt:List (Nat×Nat)->Nat->Nat
 | [],_=>0
 |q :: us,p=>bif cBF q.1 p then q.2 else idAt us p
def reBack(us:List (Nat×Nat)):D->D
 | .back p off n=>.back (idAt us p) off n
 |d=>d
def callIO{R:Type}(E:Env)(ps:List Nat)(id:Nat)(keep:Bool)(f:FuncId)(args:List A)(hp:Nat->Option kY)(K:A->rL->Option R):Option R :=
 match argsIO ps hp 0 args with
 |none=>none
 |some (us,ds)=>bif leqN (us.map (·.1)) ps&&(nodup (us.map (·.2))&&Rh (us.map (·.2)) (qN ps 0 args))then
  match E.C f ds with
  |none=>none
  |some (g,rs) =>
   aM g (shDs rs fun rs=>bif cBH us.length rs.length&&cBH rs.length 8&&!((rs.take (rs.length-us.length)).any shares)then
   match backIO us (rs.drop (rs.length-us.length))with
   |none=>none
   |some ub =>
    let r:=takeAll keep id ((rs.take (rs.length-us.length)).map (reBack us))
    match r.1 with
    | [x]=>K (.v x) (ub ++ r.2)
    |xs=>K (.Mf xs) (ub ++ r.2)
   else none)
  else none
def callK{R:Type}(E:Env)(id:Nat)(keep:Bool)(f:FuncId)(args:List A)(hp:Nat->Option kY)(K:A->rL->Option R):Option R :=
 match args.mapM (toD hp)with
 |none=>none
 |some ds=>match E.C f ds with
  |none=>none
  |some (g,rs) =>
   aM g (shDs rs fun rs=>bif cBH rs.length 8 then
   let r:=takeAll keep id rs
   let aSE:=(bif rs.any shares then(args.flatMap refs).map fun i=>(i,none)else []) ++ r.2
   match r.1 with
   | [x]=>K (.v x) aSE
   |xs=>K (.Mf xs) aSE
   else none)
def appCells{R:Type}(n0 id:Nat)(e:TypeId)(te:TI)(s x:A)(hp:Nat->Option kY)(K:A->rL->Option R):Option R:=match x with
 | .v (.one (.buf j m))=>match hp j with
  |some ⟨_,.cells new⟩=>if 0<m/\new.length=m*te.size then(match s with
   | .v (.one (.buf i n))=>match hp i with
    |some ⟨e',.cells cs⟩=>if e=e'/\n0<=i/\0<n/\cs.length=n*te.size/\(n+m)*te.bytes<=1073741824/\n+m<=1073741824 then K (.v (.one (.buf id (n+m)))) [(i,none),(id,some ⟨e,.cells (cs ++ new)⟩)]else none
    |_=>none
   | .v (.one (.s (.sc (.slice none 0 0))))=>if m*te.bytes<=1073741824/\m<=1073741824 then K (.v (.one (.buf id m))) [(id,some ⟨e,.cells new⟩)]else none
   |_=>none)else none
  |_=>none
 |_=>none
def builtinK{R:Type}(E:Env)(id:Nat)(b:Builtin)(args:List A)(yQ:List TypeId)(hp:Nat->Option kY)(K:A->rL->Option R):Option R :=
 match b,args,yQ with
 | .len,[x],[t]=>match E.T t,lenA x with
  |some ⟨_,_,_,.slice _⟩,some n=>K (Dr (.int .i64 n)) []
  |some ⟨_,_,_,.arr n _ _⟩,_=>K (Dr (.int .i64 n)) []
  |_,_=>none
 | .max,.v (.one (.s (.sc (.int k n)))) :: r,_=>match foldMM .gtr k n r with
  |some m=>K (Dr (.int k m)) []
  |none=>none
 | .min,.v (.one (.s (.sc (.int k n)))) :: r,_=>match foldMM .lss k n r with
  |some m=>K (Dr (.int k m)) []
  |none=>none
 | .append,[s,x],[t,t']=>if t=t' then
   match E.T t with
   |some ⟨_,_,_,.slice e⟩=>match E.T e with
    |some ⟨1,bytes,_,.int k⟩=>if bytes<=8 then
      match s,intsOf hp k x with
      | .v (.one (.buf i _)),some ms=>match hp i with
       |some ⟨e',.ints k' ns⟩=>bif cBQ i E.n0 then none else if e=e'/\k=k' then(if 0<ms.length/\((ns.length+ms.length:Nat):Int)<=room then K (.v (.one (.buf id (ns.length+ms.length)))) [(i,none),(id,some ⟨e,.ints k (ns ++ ms)⟩)]else none)else none
       |_=>none
      | .v (.one (.s (.sc (.slice none 0 0)))),some ms=>if 0<ms.length/\(ms.length:Int)<=room then K (.v (.one (.buf id ms.length))) [(id,some ⟨e,.ints k ms⟩)]else none
      |_,_=>none
     else none
    |some te=>appCells E.n0 id e te s x hp K
    |none=>none
   |_=>none
  else none
 | .copy,[d,s],[t,_] =>
   match E.T t with
   |some ⟨_,_,_,.slice e⟩=>match E.T e with
    |some ⟨1,_,_,.int k⟩ =>
      match d,intsOf hp k s with
      | .v (.one (.buf i n)),some ms=>match hp i with
       |some ⟨e',.ints k' ns⟩=>if k=k' then K (Dr (.int .i64 (min ms.length n:Nat))) [(i,some ⟨e',.ints k (ms.take n ++ ns.drop (min ms.length n))⟩)]else none
       |_=>none
      | .v (.one (.view i off n)),some ms=>match hp i with
       |some ⟨e',.ints k' ns⟩=>if k=k'/\off+n<=ns.length then K (Dr (.int .i64 (min ms.length n:Nat))) [(i,some ⟨e',.ints k (ns.take off ++ (ms.take n ++ ns.drop (off+min ms.length n)))⟩)]else none
       |_=>none
      |_,_=>none
    |_=>none
   |_=>none
 |_,_,_=>none
inductive EK where
 |int (k:IntKind)
 |bool
 |float (k:FloatKind)
def Gh:List Value->Option (List EK)
 | []=>some []
 | .int k _ :: r=>(Gh r).map (.int k :: ·)
 | .bool _ :: r=>(Gh r).map (.bool :: ·)
 | .float k _ :: r=>(Gh r).map (.float k :: ·)
 |_=>none
def yZ(ti:TI):Option (List EK):=match ti.kind with
 | .struct fs=>if(fs.all fun f=>cBF f.2.1 1&&!f.2.2)=true then Gh ti.zero else none
 |_=>none
def eqCell:EK->S->S->Option Bool
 | .int k,.sc (.int k1 a),.sc (.int k2 b)=>if k1=k/\k2=k then some (a==b)else none
 | .bool,.sc (.bool a),.sc (.bool b)=>some (a==b)
 | .float k,.sc (.float k1 a),.sc (.float k2 b)=>if k1=k/\k2=k then some (k.format.order a b==some .eq)else none
 |_,_,_=>none
def eqInts:List EK->List S->List S->Option Bool
 | [],[],[]=>some true
 |k :: ks,c :: r,d :: r'=>match eqCell k c d with
  |some p=>(eqInts ks r r').map fun q=>p&&q
  |none=>none
 |_,_,_=>none
def eqAgg(t:Option TI)(cs ds:List S):Option Bool:=match t with
 |some ti=>match yZ ti with
  |some ks=>eqInts ks cs ds
  |none=>none
 |none=>none
def bBJ:List S->Option IntKind
 | .sc (.int k _) :: _=>some k
 |_=>none
def pickC(len m:Nat)(cs:List S):Option S:=match bBJ cs with
 |some k=>match allInts k cs with
  |some ns=>bif cBF ns.length len then some (.sc (.int k (ns.getD m 0)))else cs[m]?
  |none=>cs[m]?
 |none=>cs[m]?
def aZV(len rJ n:Nat)(cs:List S):Option S:=bif cBF rJ 1 then pickC len n cs else cs[n*rJ]?
theorem aAL{k:IntKind}{cs:List S}:∀{ns:List Int},allInts k cs=some ns->∀m,m<ns.length->cs[m]?=some (.sc (.int k (ns.getD m 0))):=by
 induction cs with
 |nil=>intro ns h m hm;cases h;simp at hm
 |cons c r ih =>
  intro ns h m hm;unfold allInts at h;split at h
  ·rename_i heq;cases heq
  ·rename_i k' n r' heq;cases heq;split at h
   ·rename_i hk;subst hk;obtain⟨rs,hr,rfl⟩:=Option.map_eq_some_iff.1 h;cases m with
    |zero=>rfl
    |succ m=>simpa using ih hr m (by simpa using hm)
   ·cases h
  ·cases h
theorem aUM{len rJ:Nat}{n:Int}(cs:List S)(h:0<=n/\n<(len:Int)):aZV len rJ n.toNat cs=cs[n.toNat*rJ]?:=by
 unfold aZV;cases he:cBF rJ 1 with
 |false=>rfl
 |true =>
  have:=cBT he;subst this;rw[cond_true,cBO];unfold pickC;split
  ·rename_i k _;split
   ·rename_i ns aUQ;cases hl:cBF ns.length len with
    |false=>rfl
    |true =>
     have:=cBT hl;rw[cond_true,aAL aUQ n.toNat (by omega)]
   ·rfl
  ·rfl
def effK{R:Type}(E:Env)(id:Nat)(o:Oper)(ev:Operand->A)(hp:Nat->Option kY)(K:A->rL->Option R):Option R :=
 match o.op with
 | .move x=>K (ev x) []
 | .assign x=>K (ev x) []
 | .pick c a b=>match ev c with
  | .v (.one (.s (.sc (.bool t))))=>match ev a,ev b with
   | .v (.one (.s (.sc (.bool p)))),.v (.one (.s (.sc (.bool q))))=>K (Dr (.bool (bif t then p else q))) []
   |x,y=>bif t then K x []else K y []
  |_=>none
 | .alloc e=>match E.T e with
  |some ti=>K (.v (.one (.ptr id 0))) [(id,some ⟨e,.cells (ti.zero.map (wideS E.wide))⟩)]
  |none=>none
 | .box e x=>match E.T e,cellsOf hp (ev x)with
  |some ti,some (cs,u)=>if cs.length=ti.size then K (.v (.one (.ptr id 0))) (u ++ [(id,some ⟨e,.cells cs⟩)])else none
  |_,_=>none
 | .build t parts=>match E.T t with
  |some ⟨_,_,zero,.struct fs⟩=>fillK hp (fun i=>(fs[i]?).map fun f=>(f.1,f.2.1)) ev parts.toList (zero.map .sc) [] fun cs u=>K (.v (.agg cs)) u
  |some ⟨_,_,zero,.arr _ rJ _⟩=>fillK hp (fun i=>some (i*rJ,rJ)) ev parts.toList (zero.map .sc) [] fun cs u=>K (.v (.agg cs)) u
  |_=>none
 | .buildSlice t len parts=>match E.T t with
  |some ⟨_,_,_,.slice e⟩=>match E.T e with
   |some ⟨size,_,zero,kind⟩ =>
    if len*size<=16777216/\0<size then
    fillK hp (fun i=>some (i*size,size)) ev parts.toList ((cCR (len*size)).map fun i=>S.sc (zero.getD (i%size) undef)) [] fun cs u =>
     match kind,size with
     | .int k,1=>match allInts k cs with
      |some ns=>K (.v (.one (.buf id len))) (u ++ [(id,some ⟨e,.ints k ns⟩)])
      |none=>none
     |_,_=>K (.v (.one (.buf id len))) (u ++ [(id,some ⟨e,.cells cs⟩)])
    else none
   |none=>none
  |_=>none
 | .load t x=>match E.T t with
  |some ti=>match ev x with
   | .v (.one (.ptr i off))=>match hp i with
    |some ⟨_,.cells cs⟩=>match partOf ti cs off with
     |some v=>K (.v v) []
     |none=>none
    |_=>none
   | .v (.one (.Uu i j))=>match hp i,ti.kind.isAgg with
    |some ⟨_,.ints k ns⟩,false=>K (Dr (.int k (ns.getD j 0))) []
    |_,_=>none
   | .v (.one (.Rg cs))=>match partOf ti cs 0 with
    |some v=>K (.v v) []
    |none=>none
   | .v (.one (.s (.pt x)))=>match partOf ti [.sc x] 0 with
    |some v=>K (.v v) []
    |none=>none
   |_=>none
  |none=>none
 | .makeFunc (.func f) ⟨[]⟩ Iw=>match capsOf hp (Iw.toList.map ev)with
  |some (xs,u)=>K (.v (.one (.s (.Vu f xs)))) u
  |none=>none
 | .store t x y=>match E.T t with
  |some ti=>match ev x with
   | .v (.one (.ptr i off))=>match hp i,cellsOf hp (ev y)with
    |some ⟨e,.cells cs⟩,some (new,u)=>if new.length=ti.size/\off+new.length<=cs.length/\(u.all fun p=>p.1 !=i)=true then K .any (u ++ [(i,some ⟨e,.cells (setAt cs off new)⟩)])else none
    |_,_=>none
   | .v (.one (.Uu i j))=>match hp i,ev y with
    |some ⟨e,.ints k ns⟩,.v (.one (.s (.sc (.int k' n))))=>if k=k'/\ti.size=1 then K .any [(i,some ⟨e,.ints k (ns.set j n)⟩)]else none
    |_,_=>none
   |_=>none
  |none=>none
 | .binOp op t x y _=>match ev x,ev y with
  | .v (.one (.s (.sc a))),.v (.one (.s (.sc b)))=>bif boolT (E.T t) a then binK op a b fun r=>K (Dr r) []else none
  | .v (.agg cs),.v (.agg ds)=>match eqAgg (E.T t) cs ds with
   |some b=>match op with
    | .eql=>K (Dr (.bool b)) []
    | .neq=>K (Dr (.bool (!b))) []
    |_=>none
   |none=>none
  |_,_=>none
 | .unOp op _ x=>match ev x with
  | .v (.one (.s (.sc a)))=>unK op a fun r=>K (Dr r) []
  |_=>none
 | .convert s d x=>match E.T s,E.T d,ev x with
  |some _,some ti,.v (.one (.s (.sc a)))=>convK ti.kind a fun r=>K (Dr r) []
  |_,_,_=>none
 | .makeSlice t l c=>match E.T t,intArg (ev l),intArg (ev c)with
  |some ⟨_,_,_,.slice e⟩,some (_,a),some (_,b)=>match E.T e with
   |some ⟨1,bytes,[.int k0 z0],.int k⟩=>if bytes<=8/\0<bytes/\k0=k/\z0=0 then
     (if 0<=a/\a<=b/\b<=room then K (.v (.one (.buf id a.toNat))) [(id,some ⟨e,.ints k (cDH a.toNat 0)⟩)]else none)else none
   |_=>none
  |_,_,_=>none
 | .slice t x lo hi mx=>match E.T t with
  |some ⟨_,_,_,.slice e⟩=>match E.T e with
   |some ⟨1,_,_,.int k⟩=>match ev x with
    | .v (.one (.s (.ints k' ns)))=>if k=k' then sliceK ns.length (lo.map ev) (hi.map ev) (mx.map ev) fun l h=>K (.v (.one (.s (.ints k ((ns.take h).drop l))))) []else none
    | .v (.one (.s (.sc (.slice none 0 0))))=>sliceK 0 (lo.map ev) (hi.map ev) (mx.map ev) fun _ _=>K (.v (.one (.s (.ints k [])))) []
    | .v (.one (.buf i n))=>sliceK n (lo.map ev) (hi.map ev) (mx.map ev) fun l h=>K (.v (.one (.view i l (h-l)))) []
    | .v (.one (.view i off n))=>sliceK n (lo.map ev) (hi.map ev) (mx.map ev) fun l h=>K (.v (.one (.view i (off+l) (h-l)))) []
    |_=>none
   |some te=>match ev x with
    | .v (.one (.rows sz n f))=>if sz=te.size then sliceK n (lo.map ev) (hi.map ev) (mx.map ev) fun l h=>K (.v (.one (.rows sz (h-l) fun i=>f (l+i)))) []else none
    |_=>none
   |none=>none
  |_=>none
 | .fieldAddr t x f=>match E.T t with
  |some ⟨_,_,_,.struct fs⟩=>match fs[f]?,ev x with
   |some (off,size,_),.v (.one (.ptr i o))=>if 0<size then K (.v (.one (.ptr i (o+off)))) []else none
   |some (off,size,_),.v (.one (.Rg cs))=>if 0<size then K (.v (.one (.Rg (cs.drop off)))) []else none
   |_,_=>none
  |_=>none
 | .field t x f=>match E.T t with
  |some ⟨_,_,_,.struct fs⟩=>match fs[f]?,ev x with
   |some (off,size,g),.v (.agg cs)=>match (bif g then(if _h:off+size<=cs.length then some (V.agg ((cs.drop off).take size))else none)else(cs[off]?).map fun c=>V.one (.s c))with
    |some v=>K (.v v) []
    |none=>none
   |_,_=>none
  |_=>none
 | .indexAddr t x i=>match E.T t,intArg (ev i)with
  |some ti,some (_,n)=>match ti.kind with
   | .slice e=>match E.T e with
    |some te=>match ev x with
     | .v (.one (.ptr _ _))=>none
     | .v (.one (.Wa _ _))=>none
     |xa=>idxS E.short hp ti te.size xa n fun a=>K a []
    |none=>none
   | .arr _ rJ _=>match ev x with
    | .v (.one (.ptr i off))=>idxK hp ti rJ (.v (.one (.ptr i off))) n fun a=>K a []
    | .v (.one (.Wa k ns))=>idxK hp ti rJ (.v (.one (.Wa k ns))) n fun a=>K a []
    |_=>none
   |_=>none
  |_,_=>none
 | .index t x i=>match E.T t,ev x,intArg (ev i)with
  |some ⟨_,_,_,.arr len rJ g⟩,.v (.agg cs),some (_,n)=>if 0<=n/\n<len then
    match (bif g then(if _h:n.toNat*rJ+rJ<=cs.length then some (V.agg ((cs.drop (n.toNat*rJ)).take rJ))else none)else(aZV len rJ n.toNat cs).map fun c=>V.one (.s c))with
    |some v=>K (.v v) []
    |none=>none
   else none
  |some ⟨_,_,_,.str⟩,.v (.one (.s (.sc (.string s)))),some (_,n)=>if 0<=n/\n<(s.size:Int)then K (Dr (.int .u8 (Jq s n))) []else none
  |_,_,_=>none
 | .extract x i=>match ev x with
  | .Mf xs=>match xs[i]? with
   |some v=>K (.v v) []
   |none=>none
  |_=>none
 | .call ⟨.value fo,args,_⟩=>match funOf (ev fo)with
  |some f=>match (argVals (args.toList.map ev)).bind (E.ext f)with
   |some (g,vs)=>aM g (K (bEU vs) [])
   |none=>match E.ioF f with
    | []=>callK E id (keepOf E o) f (args.toList.map ev) hp K
    |p :: ps=>callIO E (p :: ps) id (keepOf E o) f (args.toList.map ev) hp K
  |none=>match cloOf (ev fo)with
   |some (f,xs)=>match E.ioF f with
    | []=>callK E id (keepOf E o) f (args.toList.map ev ++ xs.map bUV) hp K
    |_=>none
   |none=>none
 | .call ⟨.builtin b,args,yQ⟩=>builtinK E id b (args.toList.map ev) yQ.toList hp K
 |_=>none
def applyUps:rL->(Nat->Option kY)->Nat->Option kY
 | [],hp=>hp
 | (i,b) :: r,hp=>applyUps r (Cy hp i b)
def Er(o:Oper)(a:A)(fr:Nat->A):Nat->A :=
 match o.dst with
 |some d=>Cy fr d a
 |none=>fr
def after(o:Oper)(st:St)(a:A)(u:rL):St:=⟨Er o a st.fr,applyUps u st.hp,st.n⟩
def rU(E:Env)(id:Nat)(o:Oper)(ev:Operand->A)(hp:Nat->Option kY):Option (A×rL):=effK E id o ev hp fun a u=>some (a,u)
structure Rec where
 i:Nat
 o:Oper
 aMB:List Nat
 aSE:List Nat
def vK(o:Oper)(ev:Operand->A)(u:rL):List Nat:=(o.op.operands.toList.flatMap fun x=>refs (ev x)) ++ u.map (·.1)
def befB(ops:Array Oper)(j:Nat):Nat->Oper->Bool
 |0,_=>false
 |n+1,o=>o.after.any fun e=>Region.binds .any e&&(e.on==j||(match ops[e.on]? with |some o'=>befB ops j n o' |none=>false))
def indep(ops:Array Oper)(r:Rec)(_i:Nat)(o:Oper)(aMB aSE:List Nat):Bool :=
 (o.after.any fun e=>Region.binds .any e&&e.on==r.i)||(r.o.apart ops o&&Rh r.aSE aMB&&Rh aSE r.aMB)||befB ops r.i 3 o
def jX(nt:Nat)(o:Oper):Bool:=match o.dst with
 |some d=>cBQ d nt
 |none=>true
def zJ(i:Nat)(o:Oper):Bool:=o.after.all fun e=>!Region.binds .any e||cBQ e.on i
def opsK{R:Type}(E:Env)(draw:Bool)(ops:Array Oper)(base:Nat):List Oper->Nat->List Rec->St->(St->Option R)->Option R
 | [],_,_,st,K=>K st
 |o :: rest,i,pP,st,K =>
  bif jX E.nt o&&(!draw||zJ i o)then
  match o.guard with
  |none=>effK E (base+8*i) o (evA E st.fr) st.hp fun a u =>
    let t:=vK o (evA E st.fr) u
    bif !draw||pP.all fun r=>indep ops r i o t (u.map (·.1))then opsK E draw ops base rest (i+1) (⟨i,o,t,u.map (·.1)⟩ :: pP) (after o st a u) K else none
  |some (j,want)=>match (ops[j]?).bind (·.dst)with
   |some d=>match st.fr d with
    | .v (.one (.s (.sc (.bool b)))) =>
     let go (lit:Bool):Option R :=
      let gE:St:=⟨Cy st.fr d (Dr (.bool lit)),st.hp,st.n⟩
      bif lit==want then
       effK E (base+8*i) o (evA E gE.fr) gE.hp fun a u =>
        let t:=vK o (evA E gE.fr) u
        bif !draw||pP.all fun r=>indep ops r i o t (u.map (·.1))then opsK E draw ops base rest (i+1) (⟨i,o,t,u.map (·.1)⟩ :: pP) (after o gE a u) K else none
      else bif !draw||pP.all fun r=>indep ops r i o [] []then opsK E draw ops base rest (i+1) (⟨i,o,[],[]⟩ :: pP) (after o gE (.Mf []) []) K else none
     aB b (go true) (go false)
    | .Mf []=>bif !draw||pP.all fun r=>indep ops r i o [] []then opsK E draw ops base rest (i+1) (⟨i,o,[],[]⟩ :: pP) (after o st (.Mf []) []) K else none
    |_=>none
   |none=>none
  else none
inductive Ex where
 |normal
 |exit (id:Nat)
 |ret
abbrev KV:=A×Option kY
def aPK(st:St)(s:Nat):Option (Nat×A):=match st.fr s with
 | .v (.one (.buf i n))=>match st.hp i with
  |some ⟨_,.cells cs⟩=>if n*(cs.length/n)=cs.length/\0<n then some (i,.v (.one (.rows (cs.length/n) n fun j=>(cs.drop (j*(cs.length/n))).take (cs.length/n))))else none
  |_=>none
 |_=>none
def canonGo(n0:Nat)(st:St):List Nat->Nat->List Nat->List KV
 | [],_,_=>[]
 |s :: r,p,seen=>bif cBH 1000000 s then(match aPK st (s%1000000)with
   |some (i,a)=>bif seen.elem i then(.any,none) :: canonGo n0 st r (p+1) seen else(a,none) :: canonGo n0 st r (p+1) (i :: seen)
   |none=>(.any,none) :: canonGo n0 st r (p+1) seen)else
  match st.fr (s%1000000)with
  | .v (.one (.buf i n))=>bif seen.elem i then(.any,none) :: canonGo n0 st r (p+1) seen else(.v (.one (.buf p n)),st.hp i) :: canonGo n0 st r (p+1) (i :: seen)
  | .v (.one (.ptr i 0))=>bif seen.elem i then(.any,none) :: canonGo n0 st r (p+1) seen else(.v (.one (.ptr p 0)),st.hp i) :: canonGo n0 st r (p+1) (i :: seen)
  | .v (.one (.ptr _ _))=>(.any,none) :: canonGo n0 st r (p+1) seen
  | .v (.one (.Uu _ _))=>(.any,none) :: canonGo n0 st r (p+1) seen
  | .v (.one (.view i off n))=>bif cBQ i n0 then(.v (.one (.view i off n)),none) :: canonGo n0 st r (p+1) seen else(.any,none) :: canonGo n0 st r (p+1) seen
  | .Mf _=>(.any,none) :: canonGo n0 st r (p+1) seen
  |a=>(a,none) :: canonGo n0 st r (p+1) seen
def canonIO(st:St):Nat->Nat->List KV
 |0,_=>[]
 |n+1,i=>(.any,st.hp i) :: canonIO st n (i+1)
def below:Nat->List Nat
 |0=>[]
 |n+1=>n :: below n
def canon(n0:Nat)(keep:List Nat)(st:St):List KV:=canonIO st n0 0 ++ canonGo n0 st keep n0 (below n0)
def slotGo(t:Nat):List Nat->List KV->A
 |s :: r,kv :: l=>bif cBF t (s%1000000)then kv.1 else slotGo t r l
 |_,_=>.any
def blkGo:Nat->List KV->Option kY
 |_,[]=>none
 |0,kv :: _=>kv.2
 |n+1,_ :: l=>blkGo n l
def mk(n0:Nat)(keep:List Nat)(l:List KV):St:=⟨fun t=>slotGo t keep (l.drop n0),fun i=>blkGo i l,n0+keep.length⟩
def keyOf:Code->Nat
 | .region id _ _=>id
 | .seq a _=>keyOf a
 | .block _ c=>keyOf c
 | .loop c=>keyOf c
 | .scope c=>keyOf c
 | .cond _ a _=>keyOf a
 |_=>0
section
variable {α R:Type}
def iter(G:(α->Option R)->α->Option R):Nat->α->Option R
 |0=>fun _=>none
 |n+1=>G (iter G n)
open Classical in
def fix (G:(α->Option R)->α->Option R) (a:α):Option R :=
 if h:∃r,∃n,iter G n a=some r then some (Classical.choose h)else none
end
abbrev roundOf{R:Type}(ec:Code->St->(Ex->St->Option R)->Option R)(n0:Nat)(keep:List Nat)(c:Code)(K:Ex->St->Option R)(rec:List KV->Option R)(l:List KV):Option R :=
 ec c (mk n0 keep l) fun ex gE=>match ex with
  | .normal=>rec (canon n0 keep gE)
  | .exit i=>K (.exit i) gE
  | .ret=>K .ret gE
def Dj{R:Type}(_key:Nat)(l:List KV)(k:List KV->Option R):Option R:=k l
def evalCode{R:Type}(E:Env):Code->St->(Ex->St->Option R)->Option R
 | .skip,st,K=>K .normal st
 | .label _,st,K=>K .normal st
 | .region _ ops draw,st,K=>opsK E draw ops st.n ops.toList 0 [] st fun gE=>K .normal ⟨gE.fr,gE.hp,st.n+8*ops.size⟩
 | .seq a b,st,K=>evalCode E a st fun ex gE=>match ex with
  | .normal=>match E.cut (keyOf b)with
   |some keep=>Dj (keyOf b) (canon E.n0 keep gE) fun l=>evalCode E b (mk E.n0 keep l) K
   |none=>evalCode E b gE K
  | .exit i=>K (.exit i) gE
  | .ret=>K .ret gE
 | .cond c a b,st,K=>match c with
  | .tmp s=>match st.fr s with
   | .v (.one (.s (.sc (.bool t))))=>aB t (evalCode E a ⟨Cy st.fr s (Dr (.bool true)),st.hp,st.n⟩ K) (evalCode E b ⟨Cy st.fr s (Dr (.bool false)),st.hp,st.n⟩ K)
   |_=>none
  | .const (.bool t)=>aB t (evalCode E a st K) (evalCode E b st K)
  |_=>none
 | .block id c,st,K=>evalCode E c st fun ex gE=>match ex with
  | .normal=>K .normal gE
  | .exit i=>bif cBF i id then K .normal gE else K (.exit i) gE
  | .ret=>K .ret gE
 | .exit id,st,K=>K (.exit id) st
 | .ret,st,K=>K .ret st
 | .loop c,st,K=>match E.roll (keyOf c)with
  |some n=>iter (fun rec l=>evalCode E c (mk E.n0 (E.keep (keyOf c)) l) fun ex gE=>match ex with
    | .normal=>rec (canon E.n0 (E.keep (keyOf c)) gE)
    | .exit i=>K (.exit i) gE
    | .ret=>K .ret gE) n (canon E.n0 (E.keep (keyOf c)) st)
  |none=>fix (fun rec l=>evalCode E c (mk E.n0 (E.keep (keyOf c)) l) fun ex gE=>match ex with
    | .normal=>rec (canon E.n0 (E.keep (keyOf c)) gE)
    | .exit i=>K (.exit i) gE
    | .ret=>K .ret gE) (canon E.n0 (E.keep (keyOf c)) st)
 | .scope c,st,K=>evalCode E c st K
 |_,_,_=>none
def resD(E:Env)(st:St):ResultVar->Option D
 | .tmp t=>match st.fr t with
  | .v (.agg cs)=>some (.agg cs)
  | .v (.one (.s x))=>some (.s x)
  | .v (.one (.buf i _))=>bif cBQ i E.n0 then none else match st.hp i with
   |some ⟨e,.ints k ns⟩=>some (.own e k ns)
   |_=>none
  | .v (.one (.view i off n))=>bif E.io.elem i then some (.back i off n)else bif cBQ i E.n0 then none else match st.hp i,off with
   |some ⟨e,.ints k ns⟩,0=>some (.own e k (ns.take n))
   |_,_=>none
  |_=>none
 | .cell t ty=>match st.fr t,E.T ty with
  | .v (.one (.ptr i off)),some ti=>match st.hp i with
   |some ⟨_,.cells cs⟩=>match partOf ti cs off with
    |some (.agg Ox)=>some (.agg Ox)
    |some (.one (.s x))=>some (.s x)
    |_=>none
   |_=>none
  |_,_=>none
def ownIds(st:St):List ResultVar->List Nat
 | []=>[]
 | .tmp t :: r=>(match st.fr t with | .v (.one (.buf i _))=>[i] | .v (.one (.view i _ _))=>[i] |_=>[]) ++ ownIds st r
 | .cell _ _ :: r=>ownIds st r
def bFJ(st:St)(i:Nat):Option D:=match st.hp i with
 |some ⟨e,.ints k ns⟩=>some (.io e k ns 0 0)
 |_=>none
def sV(E:Env)(fn:Func)(ex:Ex)(st:St):Option (List D) :=
 match ex with
 | .exit _=>none
 |_=>bif nodup (ownIds st fn.results.toList)then(match E.io with
  | []=>fn.results.toList.mapM (resD E st)
  |p :: ps=>match fn.results.toList.mapM (resD E st),(p :: ps).mapM (bFJ st)with
   |some rs,some is=>some (rs ++ is)
   |_,_=>none)else none
def bPX:D->A
 | .s x=>.v (.one (.s x))
 | .rows sz n f=>.v (.one (.rows sz n f))
 | .agg cs=>.v (.agg cs)
 | .own _ k ns=>.v (.one (.s (.ints k ns)))
 | .io _ _ _ _ _=>.any
 | .back _ _ _=>.any
def argAt(i:Nat):D->A
 | .io _ _ _ off n=>.v (.one (.view i off n))
 |d=>bPX d
def argFrI:Nat->List D->Nat->A
 |_,[],_=>.any
 |i,d :: _,0=>argAt i d
 |i,_ :: r,n+1=>argFrI (i+1) r n
abbrev aAH:List D->Nat->A:=argFrI 0
def argHp:Nat->List D->Nat->Option kY
 |_,[],_=>none
 |i,.io e k ns _ _ :: r,j=>bif cBF j i then some ⟨e,.ints k ns⟩else argHp (i+1) r j
 |i,_ :: r,j=>argHp (i+1) r j
def aF(E:Env)(fn:Func)(c:Code)(ds:List D):Option (List D) :=
 evalCode E c ⟨aAH ds,argHp 0 ds,E.n0⟩ (sV E fn)
def aBT{R:Type}(E:Env)(b:Code)(K:Ex->St->Option R)(ex:Ex)(gE:St):Option R:=match ex with
 | .normal=>match E.cut (keyOf b)with
  |some keep=>Dj (keyOf b) (canon E.n0 keep gE) fun l=>evalCode E b (mk E.n0 keep l) K
  |none=>evalCode E b gE K
 | .exit i=>K (.exit i) gE
 | .ret=>K .ret gE
def Pf{R:Type}(id:Nat)(K:Ex->St->Option R)(ex:Ex)(gE:St):Option R:=match ex with
 | .normal=>K .normal gE
 | .exit i=>bif cBF i id then K .normal gE else K (.exit i) gE
 | .ret=>K .ret gE
def Sl{R:Type}(E:Env)(c:Code)(K:Ex->St->Option R)(ex:Ex)(gE:St):Option R:=match ex with
 | .normal=>fix (fun rec l=>evalCode E c (mk E.n0 (E.keep (keyOf c)) l) fun ex gE=>match ex with
  | .normal=>rec (canon E.n0 (E.keep (keyOf c)) gE)
  | .exit i=>K (.exit i) gE
  | .ret=>K .ret gE) (canon E.n0 (E.keep (keyOf c)) gE)
 | .exit i=>K (.exit i) gE
 | .ret=>K .ret gE
def findLoop{R:Type}(E:Env)(key:Nat):Code->(Ex->St->Option R)->Option (Code×(Ex->St->Option R))
 | .seq a b,K=>(findLoop E key a (aBT E b K)).or (findLoop E key b K)
 | .cond _ a b,K=>(findLoop E key a K).or (findLoop E key b K)
 | .block id c,K=>findLoop E key c (Pf id K)
 | .loop c,K=>bif cBF (keyOf c) key then some (c,K)else findLoop E key c (Sl E c K)
 | .scope c,K=>findLoop E key c K
 |_,_=>none
def fJ{R:Type}(E:Env)(key:Nat):Code->(Ex->St->Option R)->Option (Code×(Ex->St->Option R))
 | .seq a b,K=>bif cBF (keyOf b) key then some (b,K)else(fJ E key a (aBT E b K)).or (fJ E key b K)
 | .cond _ a b,K=>(fJ E key a K).or (fJ E key b K)
 | .block id c,K=>fJ E key c (Pf id K)
 | .loop c,K=>fJ E key c (Sl E c K)
 | .scope c,K=>fJ E key c K
 |_,_=>none
end AI
namespace AI
open Go Go.RowKit
def aKH(X:Nat->Prop)(w:World)(x v:Value):Prop:=x.oneCell'=true/\∃b off,v=.pointer (some ⟨b,off,none⟩)/\b<w.heap.size/\¬X b/\w.cell? ⟨b,off,none⟩=some x
def Tm(X:Nat->Prop)(w:World)(xs ps:List Value):Prop:=xs.length=ps.length/\∀(i:Nat) (x p:Value),xs[i]?=some x->ps[i]?=some p->aKH X w x p
def pM(X:Nat->Prop)(w:World):S->Value->Prop
 | .sc u,v=>v=u/\u.oneCell'=true
 | .ints k ns,v=>∃A c,v=.slice A ns.length c/\ns.length<=c/\∀(i:Nat) (n:Int),ns[i]?=some n->∃b off,A=some ⟨b,off,none⟩/\b<w.heap.size/\¬X b/\w.cell? ⟨b,off+i,none⟩=some (.int k n)
 | .bot,v=>v.oneCell'=true
 | .pt x,v=>aKH X w x v
 | .Vu f xs,v=>∃ps:List Value,v=.func (.func f) #[] ps.toArray/\Tm X w xs ps
def jO(X:Nat->Prop)(w:World)(cs:List S)(vs:List Value):Prop :=
 cs.length=vs.length/\∀(i:Nat) (s:S) (u:Value),cs[i]?=some s->vs[i]?=some u->pM X w s u
def wB(X:Nat->Prop)(w:World)(b off:Nat)(cs:List S):Prop :=
 ∀(i:Nat) (s:S),cs[i]?=some s->b<w.heap.size/\¬X b/\∃u,w.cell? ⟨b,off+i,none⟩=some u/\pM X w s u
def mM(w:World)(g:Nat):Nat:=match w.heap[g]? with
 |some (.cells arr _ _)=>arr.size
 |_=>0
def yE(k:IntKind)(ns:List Int):List S:=ns.map fun n=>.sc (.int k n)
def aKG(ρ:Nat->Nat)(hp:Nat->Option kY)(X:Nat->Prop)(w:World):L->Value->Prop
 | .s x,v=>pM X w x v
 | .rows sz n f,v=>∃A c,v=.slice A n c/\n<=c/\∀i,i<n->(f i).length=sz/\∃b off,A=some ⟨b,off,none⟩/\wB X w b (off+i*sz) (f i)
 | .Rg cs,v=>∃b off,v=.pointer (some ⟨b,off,none⟩)/\wB X w b off cs
 | .Wa k ns,v=>∃b off,v=.pointer (some ⟨b,off,none⟩)/\wB X w b off (yE k ns)
 | .ptr id off,v=>v=.pointer (some ⟨ρ id,off,none⟩)
 | .Uu id i,v=>v=.pointer (some ⟨ρ id,i,none⟩)/\∀blk k ns,hp id=some blk->blk.cont=.ints k ns->i<ns.length
 | .buf id n,v=>∃cap,v=.slice (some ⟨ρ id,0,none⟩) n cap/\n<=cap/\(∀blk k ns,hp id=some blk->blk.cont=.ints k ns->n=ns.length/\cap<=maxLen/\cap<=mM w (ρ id))/\∀blk cs,hp id=some blk->blk.cont=.cells cs->∃sz,cs.length=n*sz/\cap*sz<=mM w (ρ id)/\cap<=maxLen
 | .view id off n,v=>∃o' cap,v=.slice (some ⟨ρ id,o',none⟩) n cap/\n<=cap/\(0<n->o'=off)/\(off=0->o'=0)/\∀blk k ns,hp id=some blk->blk.cont=.ints k ns->off+n<=ns.length/\cap<=maxLen/\cap<=mM w (ρ id)
theorem xY{ρ:Nat->Nat}{hp:Nat->Option kY}{w:World}{id off n:Nat}{v:Value}(h:aKG ρ hp (fun _=>False) w (.view id off n) v) :
  ∃A cap,v=.slice A n cap/\n<=cap/\(0<n->A=some ⟨ρ id,off,none⟩)/\∀blk k ns,hp id=some blk->blk.cont=.ints k ns->off+n<=ns.length:=by
 obtain⟨o',cap,hv,hle,h1,_,h2⟩:=h;exact⟨_,cap,hv,hle,fun hn=>by rw[h1 hn],fun blk k ns h3 h4=>(h2 blk k ns h3 h4).1⟩
def He(ρ:Nat->Nat)(hp:Nat->Option kY)(X:Nat->Prop)(w:World):V->Value->Prop
 | .one l,v=>aKG ρ hp X w l v
 | .agg cs,v=>∃arr,v=.agg arr/\jO X w cs arr.toList
def xW(ρ:Nat->Nat)(hp:Nat->Option kY)(X:Nat->Prop)(w:World):A->Value->Prop
 | .v x,v=>He ρ hp X w x v
 | .Mf xs,v=>∃arr,v=.tuple arr/\xs.length=arr.size/\∀(i:Nat) (x:V) (u:Value),xs[i]?=some x->arr[i]?=some u->He ρ hp X w x u
 | .any,_=>True
def zX(X:Nat->Prop)(w:World):rH->Array Value->Prop
 | .ints k ns,arr=>ns.length<=arr.size/\∀(i:Nat) (n:Int),ns[i]?=some n->arr[i]?=some (Value.int k n)
 | .cells cs,arr=>cs.length<=arr.size/\∀(i:Nat) (s:S),cs[i]?=some s->∃u,arr[i]?=some u/\pM X w s u
def Hf(X:Nat->Prop)(w:World)(g:Nat)(b:kY):Prop:=∃arr,w.heap[g]?=some (.cells arr b.e (0,0))/\zX X w b.cont arr
def Own(ρ:Nat->Nat)(hp:Nat->Option kY)(b:Nat):Prop:=∃id blk,hp id=some blk/\ρ id=b
def XO(X:Nat->Prop)(ρ:Nat->Nat)(hp:Nat->Option kY)(b:Nat):Prop:=X b\/Own ρ hp b
def GlobOk(glob:Nat->Option (IntKind×List Int))(X:Nat->Prop)(w:World):Prop :=
 ∀g k ns,glob g=some (k,ns)->g<w.heap.size/\¬X g/\wB X w g 0 (yE k ns)
structure Old where
 w:World
 M:Nat->Prop
 g:Nat->Nat
 bEZ:∀b,M b->b<w.heap.size
def Old.Kl(o:Old)(b:Nat):Prop:=o.w.heap.size<=b\/o.M b
def Old.Et(o:Old)(n0 id b:Nat):Prop:=o.w.heap.size<=b\/(id<n0/\o.M b)
theorem Old.Et.Kl{o:Old}{n0 id b:Nat}(h:o.Et n0 id b):o.Kl b:=h.imp (fun h=>h) And.right
theorem Old.Et.new{o:Old}{n0 id b:Nat}(h:o.Et n0 id b)(hn:n0<=id):o.w.heap.size<=b:=h.elim (fun h=>h) fun h=>absurd h.1 (by omega)
def Old.bare(w:World):Old:=⟨w,fun _=>False,id,fun _ h=>h.elim⟩
structure Kept(o:Old)(w w':World):Prop where
 os:w'.os=w.os
 tape:w'.tape=w.tape
 output:w'.output=w.output
 size:w.heap.size<=w'.heap.size
 block:∀b,¬o.Kl b->w'.heap[b]?=w.heap[b]?
 room:∀b,o.M b->mM w' b=mM w b
theorem yL{w w':World}{b:Nat}(h:w'.heap[b]?=w.heap[b]?):mM w' b=mM w b:=by unfold mM;rw[h]
theorem Kept.refl(o:Old)(w:World):Kept o w w:=⟨rfl,rfl,rfl,cBE _,fun _ _=>rfl,fun _ _=>rfl⟩
theorem Kept.trans{o:Old}{a b c:World}(h:Kept o a b)(k:Kept o b c):Kept o a c :=
 ⟨k.os.trans h.os,k.tape.trans h.tape,k.output.trans h.output,cCA h.size k.size,fun i hi=>(k.block i hi).trans (h.block i hi),fun i hi=>(k.room i hi).trans (h.room i hi)⟩
theorem Old.Yi{o:Old}{b:Nat}(h:¬o.Kl b):b<o.w.heap.size:=by
 rcases cBU b o.w.heap.size with h1 |h1
 ·exact h1
 ·exact(h (.inl h1)).elim
theorem Kept.below{w w' bEN:World}(h:Kept (Old.bare w) w' bEN):Below w.heap.size w' bEN :=
 ⟨h.os,h.tape,h.output,h.size,fun k hk=>h.block k (fun hm=>by
  rcases hm with hm |hm
  ·exact absurd (show w.heap.size<=k from hm) (by omega)
  ·exact hm)⟩
structure jY(E:Env)(X:Nat->Prop)(w0:Old)(ρ:Nat->Nat)(al:Nat->Prop)(f:Nat->A)(hp:Nat->Option kY)(a:Act)(w:World):Prop where
 fr:∀t,xW ρ hp (XO X ρ hp) w (f t) (a.tmps.getD t undef)
 sz:a.tmps.size=E.nt
 nod:a.defers=[]
 blk:∀id b,hp id=some b->w0.Et E.n0 id (ρ id)/\Hf (XO X ρ hp) w (ρ id) b
 inj:∀id aAZ b b',hp id=some b->hp aAZ=some b'->ρ id=ρ aAZ->id=aAZ
 alh:∀id b,hp id=some b->al id
 alr:∀t id,id∈refs (f t)->al id
 below:Kept w0 w0.w w
 x0:∀b,X b->¬w0.Kl b
 glob:GlobOk E.glob X w0.w
 mg:∀g p,E.glob g=some p->¬w0.M g
 al0:∀id,id<E.n0->al id
 xF:∀id,id<E.n0->ρ id=w0.g id
structure iT(X:Nat->Prop)(w:World)(X':Nat->Prop)(w':World):Prop where
 size:w.heap.size<=w'.heap.size
 keep:∀b,b<w.heap.size->¬X b->w'.heap[b]?=w.heap[b]?/\¬X' b
theorem iT.refl(X:Nat->Prop)(w:World):iT X w X w:=⟨cBE _,fun _ _ h=>⟨rfl,h⟩⟩
theorem iT.trans{X X' bTS:Nat->Prop}{w w' bEN:World}(h:iT X w X' w')(h':iT X' w' bTS bEN):iT X w bTS bEN :=
 ⟨cCA h.size h'.size,fun b hb hx=>by
  obtain⟨e,Ae⟩:=h.keep b hb hx;obtain⟨e',bMI⟩:=h'.keep b (cCB hb h.size) Ae;exact⟨e'.trans e,bMI⟩⟩
section
variable {X X':Nat->Prop} {w w':World}
theorem iT.cell(h:iT X w X' w'){b off:Nat}(hb:b<w.heap.size)(hx:¬X b):w'.cell? ⟨b,off,none⟩=w.cell? ⟨b,off,none⟩ :=
 World.cell?_of_block (a:=⟨b,off,none⟩) (h.keep b hb hx).1
theorem aKH.later(h:iT X w X' w'){x v:Value}(r:aKH X w x v):aKH X' w' x v:=by
 obtain⟨h1,b,off,hv,hb,hx,hc⟩:=r;exact⟨h1,b,off,hv,cCB hb h.size,(h.keep b hb hx).2,(h.cell hb hx).trans hc⟩
theorem Tm.later(h:iT X w X' w'){xs ps:List Value}(r:Tm X w xs ps):Tm X' w' xs ps:=⟨r.1,fun i x p hx hp=>(r.2 i x p hx hp).later h⟩
theorem pM.later(h:iT X w X' w'){s:S}{v:Value}(r:pM X w s v):pM X' w' s v:=by
 cases s with
 |sc u=>exact r
 |bot=>exact r
 |pt x=>exact aKH.later h r
 |Vu f xs=>obtain⟨ps,hv,hp⟩:=r;exact⟨ps,hv,hp.later h⟩
 |ints k ns =>
  obtain⟨A,c,hv,hle,hc⟩:=r;refine⟨A,c,hv,hle,fun i n hn=>?_⟩;obtain⟨b,off,hA,hb,hx,aPB⟩:=hc i n hn;exact⟨b,off,hA,cCB hb h.size,(h.keep b hb hx).2,(h.cell hb hx).trans aPB⟩
theorem pM.one{s:S}{v:Value}(r:pM X w s v):v.oneCell'=true:=by
 cases s with
 |sc u=>obtain⟨rfl,h⟩:=r;exact h
 |bot=>exact r
 |pt x=>obtain⟨_,b,off,rfl,_⟩:=r;rfl
 |Vu f xs=>obtain⟨ps,rfl,_⟩:=r;rfl
 |ints k ns=>obtain⟨A,c,rfl,_⟩:=r;rfl
theorem jO.later(h:iT X w X' w'){cs:List S}{vs:List Value}(r:jO X w cs vs):jO X' w' cs vs :=
 ⟨r.1,fun i s u hs hu=>(r.2 i s u hs hu).later h⟩
theorem wB.later(h:iT X w X' w'){b off:Nat}{cs:List S}(r:wB X w b off cs):wB X' w' b off cs:=by
 intro i s hs;obtain⟨hb,hx,u,hu,hr⟩:=r i s hs;exact⟨cCB hb h.size,(h.keep b hb hx).2,u,(h.cell hb hx).trans hu,hr.later h⟩
theorem zX.later(h:iT X w X' w'){c:rH}{arr:Array Value}(r:zX X w c arr):zX X' w' c arr:=by
 cases c with
 |ints k ns=>exact r
 |cells cs=>exact⟨r.1,fun i s hs=>let ⟨u,hu,hr⟩:=r.2 i s hs;⟨u,hu,hr.later h⟩⟩
end
def sameShape(b b':kY):Prop:=(∀k ns,b'.cont=.ints k ns->∃k' oH,b.cont=.ints k' oH/\oH.length=ns.length)/\∀cs,b'.cont=.cells cs->∃Ox,b.cont=.cells Ox/\Ox.length=cs.length
theorem sameShape.refl(b:kY):sameShape b b:=⟨fun k ns e=>⟨k,ns,e,rfl⟩,fun cs e=>⟨cs,e,rfl⟩⟩
section
variable {ρ ρ':Nat->Nat} {hp hp':Nat->Option kY} {X X':Nat->Prop} {w w':World} {al:Nat->Prop}
def xL(ρ ρ':Nat->Nat)(hp hp':Nat->Option kY)(w w':World)(al:Nat->Prop):Prop :=
 ∀id,al id->ρ' id=ρ id/\∀b',hp' id=some b'->∃b,hp id=some b/\sameShape b b'/\mM w' (ρ id)=mM w (ρ id)
theorem xL.refl(ρ:Nat->Nat)(hp:Nat->Option kY)(w:World)(al:Nat->Prop):xL ρ ρ hp hp w w al :=
 fun _ _=>⟨rfl,fun b h=>⟨b,h,sameShape.refl _,rfl⟩⟩
theorem aKG.later(h:iT X w X' w')(hh:xL ρ ρ' hp hp' w w' al){l:L}{v:Value}(tH:∀id∈refsL l,al id)(r:aKG ρ hp X w l v):aKG ρ' hp' X' w' l v:=by
 cases l with
 |s x=>exact pM.later h r
 |rows sz n f =>
  obtain⟨A,c,hv,hle,hc⟩:=r;refine⟨A,c,hv,hle,fun i hi=>?_⟩;obtain⟨hl,b,off,hA,Vb⟩:=hc i hi;exact⟨hl,b,off,hA,Vb.later h⟩
 |Rg cs=>obtain⟨b,off,hv,hc⟩:=r;exact⟨b,off,hv,hc.later h⟩
 |Wa k ns=>obtain⟨b,off,hv,hc⟩:=r;exact⟨b,off,hv,hc.later h⟩
 |ptr id off =>
  have hr:v=.pointer (some ⟨ρ id,off,none⟩):=r;show v=.pointer (some ⟨ρ' id,off,none⟩);rw[(hh id (tH id (by simp[refsL]))).1];exact hr
 |Uu id i =>
  obtain⟨hv,hc⟩:=r;obtain⟨e,hb⟩:=hh id (tH id (by simp[refsL]));refine⟨by rw[e];exact hv,fun b' k ns h1 h2=>?_⟩;obtain⟨b,h3,h4,_⟩:=hb b' h1;obtain⟨k',oH,h5,h6⟩:=h4.1 k ns h2;have:=hc b k' oH h3 h5;omega
 |buf id n =>
  obtain⟨cap,hv,hle,hc,aXX⟩:=r;obtain⟨e,hb⟩:=hh id (tH id (by simp[refsL]));refine⟨cap,by rw[e];exact hv,hle,fun b' k ns h1 h2=>?_,fun b' cs h1 h2=>?_⟩
  ·obtain⟨b,h3,h4,h7⟩:=hb b' h1;obtain⟨k',oH,h5,h6⟩:=h4.1 k ns h2;have:=hc b k' oH h3 h5;rw[e,h7];exact⟨by omega,this.2⟩
  ·obtain⟨b,h3,h4,h7⟩:=hb b' h1;obtain⟨Ox,h5,h6⟩:=h4.2 cs h2;obtain⟨sz,h8,h9⟩:=aXX b Ox h3 h5;rw[e,h7];exact⟨sz,by omega,h9⟩
 |view id off n =>
  obtain⟨o',cap,hv,hle,aCP,Ao,hc⟩:=r;obtain⟨e,hb⟩:=hh id (tH id (by simp[refsL]));refine⟨o',cap,by rw[e];exact hv,hle,aCP,Ao,fun b' k ns h1 h2=>?_⟩;obtain⟨b,h3,h4,h7⟩:=hb b' h1;obtain⟨k',oH,h5,h6⟩:=h4.1 k ns h2;have:=hc b k' oH h3 h5;rw[e,h7];exact⟨by omega,this.2⟩
theorem He.later(h:iT X w X' w')(hh:xL ρ ρ' hp hp' w w' al){x:V}{v:Value}(tH:∀id∈refsV x,al id)(r:He ρ hp X w x v):He ρ' hp' X' w' x v:=by
 cases x with
 |one l=>exact aKG.later h hh tH r
 |agg cs=>obtain⟨arr,hv,hr⟩:=r;exact⟨arr,hv,hr.later h⟩
theorem xW.later(h:iT X w X' w')(hh:xL ρ ρ' hp hp' w w' al){x:A}{v:Value}(tH:∀id∈refs x,al id)(r:xW ρ hp X w x v):xW ρ' hp' X' w' x v:=by
 cases x with
 |v x=>exact He.later h hh tH r
 |any=>trivial
 |Mf xs =>
  obtain⟨arr,hv,hl,hr⟩:=r;refine⟨arr,hv,hl,fun i x u hx hu=>He.later h hh (fun id xH=>tH id ?_) (hr i x u hx hu)⟩;exact List.mem_flatMap.2 ⟨x,cBN hx,xH⟩
end
theorem jY.next{E:Env}{X:Nat->Prop}{w0:Old}{ρ ρ':Nat->Nat}{al al':Nat->Prop}{fr:Nat->A}{hp hp':Nat->Option kY}{a:Act}{w w':World}{o:Oper}{x:A}{v:Value}
  (h:jY E X w0 ρ al fr hp a w) (hd:jX E.nt o=true)
  (hl:iT (XO X ρ hp) w (XO X ρ' hp') w') (hb:Kept w0 w w')
  (hh:xL ρ ρ' hp hp' w w' al)
  (Kp:∀id b,hp' id=some b->w0.Et E.n0 id (ρ' id)/\Hf (XO X ρ' hp') w' (ρ' id) b)
  (Bq:∀id aAZ b b',hp' id=some b->hp' aAZ=some b'->ρ' id=ρ' aAZ->id=aAZ)
  (tH:∀id,al id->al' id) (bBA:∀id b,hp' id=some b->al' id)
  (hx:xW ρ' hp' (XO X ρ' hp') w' x v) (bFM:∀id∈refs x,al' id) :
  jY E X w0 ρ' al' (Er o x fr) hp' (a.put o.dst v) w':=by
 have key:∀t,xW ρ' hp' (XO X ρ' hp') w' (Er o x fr t) ((a.put o.dst v).tmps.getD t undef)/\∀id∈refs (Er o x fr t),al' id:=by
  intro t;unfold Er Act.put;cases aJC:o.dst with
  |none=>exact⟨xW.later hl hh (h.alr t) (h.fr t),fun id xH=>tH id (h.alr t id xH)⟩
  |some d =>
   have kM:d<a.tmps.size:=by rw[h.sz];unfold jX at hd;rw[aJC]at hd;simpa using hd
   simp only[Cy];cases bSQ:cBF t d with
   |true =>
    obtain rfl:t=d:=cBT bSQ;simp only[cond_true];refine⟨?_,bFM⟩;have e:(a.tmps.setIfInBounds t v).getD t undef=v:=by simp[Array.getD,kM]
    rw[e];exact hx
   |false =>
    have Bp:t≠d:=cDI bSQ;simp only[cond_false];have e:(a.tmps.setIfInBounds d v).getD t undef=a.tmps.getD t undef:=by
     simp only[Array.getD_eq_getD_getElem?,Array.getElem?_setIfInBounds];rw[if_neg (fun h=>Bp h.symm)]
    rw[e];exact⟨xW.later hl hh (h.alr t) (h.fr t),fun id xH=>tH id (h.alr t id xH)⟩
 exact { fr:=fun t=>(key t).1,sz:=by unfold Act.put;cases o.dst <;> simp[h.sz],nod:=by unfold Act.put;cases o.dst <;> exact h.nod,blk:=Kp,inj:=Bq,alh:=bBA,alr:=fun t=>(key t).2,below:=h.below.trans hb,x0:=h.x0,glob:=h.glob,mg:=h.mg,al0:=fun id hi=>tH id (h.al0 id hi),xF:=fun id hi=>(hh id (h.al0 id hi)).1.trans (h.xF id hi) }
theorem jY.pure{E:Env}{X:Nat->Prop}{w0:Old}{ρ:Nat->Nat}{al:Nat->Prop}{fr:Nat->A}{hp:Nat->Option kY}{a:Act}{w:World}{o:Oper}{x:A}{v:Value}
  (h:jY E X w0 ρ al fr hp a w) (hd:jX E.nt o=true) (hx:xW ρ hp (XO X ρ hp) w x v) (bFM:∀id∈refs x,al id) :
  jY E X w0 ρ al (Er o x fr) hp (a.put o.dst v) w :=
 h.next hd (iT.refl _ _) (Kept.refl _ _) (xL.refl _ _ _ _) h.blk h.inj (fun _ h=>h) h.alh hx bFM
theorem jY.Vf{E:Env}{X:Nat->Prop}{w0:Old}{ρ:Nat->Nat}{al:Nat->Prop}{fr:Nat->A}{hp:Nat->Option kY}{a:Act}{w:World}
  (h:jY E X w0 ρ al fr hp a w):GlobOk E.glob (XO X ρ hp) w:=by
 intro g k ns hg;obtain⟨h1,h2,h3⟩:=h.glob g k ns hg;have hm:¬w0.Kl g:=by
  rintro (hm |hm)
  ·omega
  ·exact h.mg g _ hg hm
 have hx:¬XO X ρ hp g:=by
  rintro (ho |⟨id,b',e1,e2⟩)
  ·exact h2 ho
  ·exact hm (e2▸(h.blk id b' e1).1.Kl)
 refine⟨cCB h1 h.below.size,hx,fun i s hs=>?_⟩;obtain⟨_,_,u,hu,hr⟩:=h3 i s hs;refine⟨cCB h1 h.below.size,hx,u,(World.cell?_of_block (a:=⟨g,0+i,none⟩) (h.below.block g hm)).trans hu,?_⟩;unfold yE at hs;rw[cBI]at hs;obtain⟨m,_,rfl⟩:=Option.map_eq_some_iff.1 hs;exact hr
theorem jY.ev{E:Env}{X:Nat->Prop}{w0:Old}{ρ:Nat->Nat}{al:Nat->Prop}{fr:Nat->A}{hp:Nat->Option kY}{a:Act}{w:World}
  (h:jY E X w0 ρ al fr hp a w) (x:Operand):xW ρ hp (XO X ρ hp) w (evA E fr x) (a.eval x)/\∀id∈refs (evA E fr x),al id:=by
 cases x with
 |tmp t=>exact⟨h.fr t,h.alr t⟩
 |const v =>
  simp only[evA];split
  ·rename_i hv;exact⟨⟨rfl,hv⟩,by simp[refs,refsV,refsL]⟩
  ·exact⟨trivial,by simp[refs]⟩
 |func f=>exact⟨⟨rfl,rfl⟩,by simp[evA,refs,refsV,refsL]⟩
 |global g =>
  simp only[evA];cases hg:E.glob g with
  |none=>exact⟨trivial,by simp[refs]⟩
  |some p =>
   obtain⟨k,ns⟩:=p;refine⟨⟨g,0,rfl,?_⟩,by simp[refs,refsV,refsL]⟩;exact(h.Vf g k ns hg).2.2
end AI
namespace AI
open Go Go.RowKit
theorem Jb{R:Type}(op:BinOp)(x y:Value)(K:Value->Option R):binK op x y K=(binK op x y some).bind K:=by
 unfold binK;split
 ·split <;> (repeat' split) <;> first |rfl | (simp;done)
 ·split <;> (repeat' split) <;> first |rfl | (generalize Ieee.Format.add _ _ _=m;cases m <;> rfl) | (generalize Ieee.Format.sub _ _ _=m;cases m <;> rfl) | (generalize Ieee.Format.mul _ _ _=m;cases m <;> rfl) | (generalize Ieee.Format.div _ _ _=m;cases m <;> rfl)
 ·split <;> rfl
 ·rfl
theorem Md{R:Type}(op:UnOp)(x:Value)(K:Value->Option R):unK op x K=(unK op x some).bind K:=by
 unfold unK;split <;> simp
theorem Ez{R:Type}(k:TK)(x:Value)(K:Value->Option R):convK k x K=(convK k x some).bind K:=by
 unfold convK;split
 ·simp
 ·simp
 ·rename_i s b;cases ((FloatKind.decode s b).toInt .zero)with
  |none=>rfl
  |some n=>simp only[cCW];split <;> simp
 ·split <;> simp
 ·rfl
theorem fdiv_pow(a:Int)(n:Nat):a.fdiv (2^n)=a/((2^n:Nat):Int):=by
 rw[Int.fdiv_eq_ediv_of_nonneg _ (by exact Int.le_of_lt (Int.pow_pos (by omega)))];simp
theorem Zo{P:Program}(op:BinOp)(t:TypeId)(x y:Operand)(k k':IntKind)(a b:Int)(w:World):(eqGuard op t x y (.int k a) (.int k' b)).run P w=.ok () w:=by
 unfold eqGuard;split <;> rfl
theorem Rc{P:Program}(op:BinOp)(t:TypeId)(x y:Operand)(k k':FloatKind)(a b:Nat)(w:World):(eqGuard op t x y (.float k a) (.float k' b)).run P w=.ok () w:=by
 unfold eqGuard;split <;> rfl
theorem Vl{P:Program}(op:BinOp)(t:TypeId)(x y:Operand)(a b:Bool)(w:World):(eqGuard op t x y (.bool a) (.bool b)).run P w=.ok () w:=by
 unfold eqGuard;split <;> rfl
theorem aWG{P:Program}(op:BinOp)(t:TypeId)(k k':IntKind)(a b:Int)(r:Value)(w:World)(h:binK op (.int k a) (.int k' b) some=some r) :
  (binOp op t (.int k a) (.int k' b)).run P w=.ok r w/\r.oneCell'=true:=by
 cases op <;> simp only[binK]at h
 case shl =>
  split at h <;> cases h;rename_i hb;simp[binOp,Op.shift,hb,Value.oneCell']
 case shr =>
  split at h <;> cases h;rename_i hb;simp[binOp,Op.shift,fdiv_pow,hb,Value.oneCell']
 case quo =>
  split at h <;> try (cases h;done)
  split at h <;> cases h;rename_i hk hb;simp[binOp,Op.intDiv,hk,hb,Value.oneCell']
 case rem =>
  split at h <;> try (cases h;done)
  split at h <;> cases h;rename_i hk hb;simp[binOp,Op.intDiv,hk,hb,Value.oneCell']
 all_goals
  split at h <;> cases h;rename_i hk;subst hk;simp[binOp,Op.intArith,Op.intCmp,Op.intBits,wS,bitsI0,Value.oneCell']
theorem aKA{P:Program}(op:BinOp)(t:TypeId)(k k':FloatKind)(a b:Nat)(r:Value)(w:World)(h:binK op (.float k a) (.float k' b) some=some r) :
  (binOp op t (.float k a) (.float k' b)).run P w=.ok r w/\r.oneCell'=true:=by
 cases op <;> simp only[binK]at h
 case add =>
  split at h <;> try (cases h;done)
  rename_i hk;subst hk;obtain⟨m,hm,hr⟩:=Option.bind_eq_some_iff.1 h;cases hr;simp[binOp,Op.floatArith,hm,Value.oneCell']
 case sub =>
  split at h <;> try (cases h;done)
  rename_i hk;subst hk;obtain⟨m,hm,hr⟩:=Option.bind_eq_some_iff.1 h;cases hr;simp[binOp,Op.floatArith,hm,Value.oneCell']
 case mul =>
  split at h <;> try (cases h;done)
  rename_i hk;subst hk;obtain⟨m,hm,hr⟩:=Option.bind_eq_some_iff.1 h;cases hr;simp[binOp,Op.floatArith,hm,Value.oneCell']
 case quo =>
  split at h <;> try (cases h;done)
  rename_i hk;subst hk;obtain⟨m,hm,hr⟩:=Option.bind_eq_some_iff.1 h;cases hr;simp[binOp,Op.floatArith,hm,Value.oneCell']
 all_goals (try (cases h;done))
 all_goals
  split at h <;> cases h;rename_i hk;subst hk;simp[binOp,Op.floatCmp,Value.oneCell']
theorem aJZ{P:Program}(op:BinOp)(t:TypeId)(x y:Operand)(a b r:Value)(w:World)(hb:∀q,a=.bool q->P.underlying t=some .bool)(h:binK op a b some=some r) :
  (do eqGuard op t x y a b;binOp op t a b:Sem Value).run P w=.ok r w/\r.oneCell'=true:=by
 cases a with
 |int k a =>
  cases b with
  |int k' b=>rw[Sem.run_bind,Zo];exact aWG op t k k' a b r w h
  |_=>simp[binK]at h
 |float k a =>
  cases b with
  |float k' b=>rw[Sem.run_bind,Rc];exact aKA op t k k' a b r w h
  |_=>simp[binK]at h
 |bool a =>
  cases b with
  |bool b =>
   rw[Sem.run_bind,Vl];have ht:=hb a rfl;cases op <;> simp only[binK]at h <;> cases h
   ·exact⟨run_eql_bool w t a b ht,rfl⟩
   ·refine⟨?_,rfl⟩;rw[Result.andThen_ok];simp only[binOp];rw[Sem.run_bind,run_equal_bool w t a b ht];rfl
  |_=>simp[binK]at h
 |_=>simp[binK]at h
theorem aLV{P:Program}(op:UnOp)(a r:Value)(w:World)(h:unK op a some=some r) :
  (Op.unary op a).run P w=.ok r w/\r.oneCell'=true:=by
 unfold unK at h;split at h <;> cases h <;> simp[Op.unary,Op.intArith,Op.intBits,wS,bitsI0,Value.oneCell']
end AI
namespace AI
open Go Go.RowKit
section
variable {E:Env} {X:Nat->Prop} {w0:Old} {ρ ρ':Nat->Nat} {al al':Nat->Prop} {fr:Nat->A} {hp hp':Nat->Option kY} {a:Act} {w w':World}
theorem jY.change(h:jY E X w0 ρ al fr hp a w)
  (hl:iT (XO X ρ hp) w (XO X ρ' hp') w') (hb:Kept w0 w w')
  (hh:xL ρ ρ' hp hp' w w' al)
  (Kp:∀id b,hp' id=some b->w0.Et E.n0 id (ρ' id)/\Hf (XO X ρ' hp') w' (ρ' id) b)
  (Bq:∀id aAZ b b',hp' id=some b->hp' aAZ=some b'->ρ' id=ρ' aAZ->id=aAZ)
  (tH:∀id,al id->al' id) (bBA:∀id b,hp' id=some b->al' id):jY E X w0 ρ' al' fr hp' a w' :=
 { fr:=fun t=>xW.later hl hh (h.alr t) (h.fr t),sz:=h.sz,nod:=h.nod,blk:=Kp,inj:=Bq,alh:=bBA,alr:=fun t id xH=>tH id (h.alr t id xH),below:=h.below.trans hb,x0:=h.x0,glob:=h.glob,mg:=h.mg,al0:=fun id hi=>tH id (h.al0 id hi),xF:=fun id hi=>(hh id (h.al0 id hi)).1.trans (h.xF id hi) }
def Cons(u:rL):Prop:=∀p∈u,p.2=none
theorem lV(u v:rL)(hp:Nat->Option kY):applyUps (u ++ v) hp=applyUps v (applyUps u hp):=by
 induction u generalizing hp with
 |nil=>rfl
 |cons p u ih=>obtain⟨i,b⟩:=p;simp only[cCX,applyUps];exact ih _
theorem bW{α:Type}(f:Nat->α)(d:Nat)(x:α):Cy f d x d=x:=by simp[Cy]
theorem gB{α:Type}(f:Nat->α){d i:Nat}(x:α)(h:i≠d):Cy f d x i=f i:=by
 have:cBF i d=false:=by cases hb:cBF i d with
  |false=>rfl
  |true=>exact absurd (cBT hb) h
 simp[Cy,this]
theorem iV{u:rL}(hu:Cons u){hp:Nat->Option kY}{i:Nat}{b:kY}(h:applyUps u hp i=some b):hp i=some b:=by
 induction u generalizing hp with
 |nil=>exact h
 |cons p u ih =>
  obtain⟨j,c⟩:=p;have hc:c=none:=hu (j,c) (by simp);subst hc;have:=ih (fun p hp=>hu p (by simp[hp])) h
  by_cases bDP:i=j
  ·subst bDP;rw[bW]at this;cases this
  ·rwa [gB _ _ bDP]at this
theorem Rm{u:rL}(hu:Cons u){hp:Nat->Option kY}{i:Nat}(h:(i,none)∈u):applyUps u hp i=none:=by
 induction u generalizing hp with
 |nil=>cases h
 |cons p u ih =>
  obtain⟨j,c⟩:=p;have hc:c=none:=hu (j,c) (by simp);subst hc;have Yv:Cons u:=fun p hp=>hu p (by simp[hp])
  rcases List.mem_cons.1 h with h |h
  ·cases h;cases hq:applyUps ((i,none) :: u) hp i with
   |none=>rfl
   |some b=>have:=iV Yv (hp:=Cy hp i none) hq;rw[bW]at this;cases this
  ·exact ih Yv h
theorem Own.of_cons{u:rL}(hu:Cons u){b:Nat}(h:Own ρ (applyUps u hp) b):Own ρ hp b:=by
 obtain⟨id,bl,h1,h2⟩:=h;exact⟨id,bl,iV hu h1,h2⟩
theorem iT.cons{u:rL}(hu:Cons u):iT (XO X ρ hp) w (XO X ρ (applyUps u hp)) w :=
 ⟨cBE _,fun _ _ hx=>⟨rfl,fun h=>hx (h.imp id (Own.of_cons hu))⟩⟩
theorem Hf.later{X X':Nat->Prop}{g:Nat}{b:kY}(h:iT X w X' w')(hg:w'.heap[g]?=w.heap[g]?)(r:Hf X w g b):Hf X' w' g b:=by
 obtain⟨arr,h1,h2⟩:=r;exact⟨arr,hg.trans h1,h2.later h⟩
theorem jY.cons(h:jY E X w0 ρ al fr hp a w){u:rL}(hu:Cons u):jY E X w0 ρ al fr (applyUps u hp) a w :=
 h.change (iT.cons hu) (Kept.refl _ _)
  (fun _ _=>⟨rfl,fun b' tR=>⟨b',iV hu tR,sameShape.refl _,rfl⟩⟩)
  (fun id b hb=>⟨(h.blk id b (iV hu hb)).1,(h.blk id b (iV hu hb)).2.later (iT.cons hu) rfl⟩)
  (fun id aAZ b b' h1 h2 e=>h.inj id aAZ b b' (iV hu h1) (iV hu h2) e)
  (fun _ h=>h) (fun id b hb=>h.alh id b (iV hu hb))
theorem Hf.lt{X:Nat->Prop}{g:Nat}{b:kY}(r:Hf X w g b):g<w.heap.size:=by
 obtain⟨arr,h1,_⟩:=r;exact(Array.getElem?_eq_some_iff.1 h1).1
theorem yH(w:World)(o:Obj):(w.alloc o).heap[w.heap.size]?=some o:=heap_alloc_new w o
theorem yG(w:World)(o:Obj){k:Nat}(h:k<w.heap.size):(w.alloc o).heap[k]?=w.heap[k]?:=Below.heap_alloc w o k h
theorem jY.kB(h:jY E X w0 ρ al fr hp a w){id:Nat}{b:kY}(hb:hp id=some b):ρ id<w.heap.size:=(h.blk id b hb).2.lt
theorem Kept.alloc{o:Old}{w:World}(h:o.w.heap.size<=w.heap.size)(x:Obj):Kept o w (w.alloc x) :=
 ⟨rfl,rfl,rfl,by simp,fun _ hb=>yG w x (by have:=Old.Yi hb;omega),fun b hb=>yL (yG w x (by have:=o.bEZ b hb;omega))⟩
theorem jY.alloc(h:jY E X w0 ρ al fr hp a w){id:Nat}(xH:¬al id)(tH:∀i,al i->al' i)(uL:al' id)(e:TypeId)(c:rH)(arr:Array Value)(hc:zX (XO X ρ hp) w c arr) :
  jY E X w0 (Cy ρ id w.heap.size) al' fr (Cy hp id (some ⟨e,c⟩)) a (w.alloc (.cells arr e)):=by
 have Bp:∀i,al i->i≠id:=fun i hi e=>xH (e▸hi)
 have hl:iT (XO X ρ hp) w (XO X (Cy ρ id w.heap.size) (Cy hp id (some ⟨e,c⟩))) (w.alloc (.cells arr e)):=by
  refine⟨by simp,fun b hb hx=>⟨yG w _ hb,fun ho=>?_⟩⟩;rcases ho with ho |⟨i,bl,h1,h2⟩
  ·exact hx (.inl ho)
  ·by_cases hi:i=id
   ·subst hi;rw[bW]at h2;omega
   ·rw[gB _ _ hi]at h1 h2;exact hx (.inr ⟨i,bl,h1,h2⟩)
 refine h.change hl (Kept.alloc h.below.size _) ?_ ?_ ?_ tH ?_
 ·intro i hi;refine⟨gB _ _ (Bp i hi),fun b' tR=>?_⟩;rw[gB _ _ (Bp i hi)]at tR;refine⟨b',tR,sameShape.refl _,?_⟩;unfold mM;rw[yG w _ (h.kB tR)]
 ·intro i b hb
  by_cases hi:i=id
  ·subst hi;rw[bW]at hb;cases hb;refine⟨by rw[bW];exact .inl h.below.size,arr,by rw[bW];exact yH w _,hc.later hl⟩
  ·rw[gB _ _ hi]at hb;rw[gB _ _ hi];exact⟨(h.blk i b hb).1,(h.blk i b hb).2.later hl (yG w _ (h.kB hb))⟩
 ·intro i i' b b' h1 h2 e
  by_cases hi:i=id
  ·by_cases aGN:i'=id
   ·rw[hi,aGN]
   ·subst hi;rw[gB _ _ aGN]at h2;rw[bW,gB _ _ aGN]at e;have:=h.kB h2;omega
  ·by_cases aGN:i'=id
   ·subst aGN;rw[gB _ _ hi]at h1;rw[bW,gB _ _ hi]at e;have:=h.kB h1;omega
   ·rw[gB _ _ hi]at h1 e;rw[gB _ _ aGN]at h2 e;exact h.inj i i' b b' h1 h2 e
 ·intro i b hb
  by_cases hi:i=id
  ·subst hi;exact uL
  ·rw[gB _ _ hi]at hb;exact tH i (h.alh i b hb)
theorem jY.setRow(h:jY E X w0 ρ al fr hp a w){id:Nat}{b:kY}(hb:hp id=some b)(c:rH)(arr:Array Value)(hs:sameShape b ⟨b.e,c⟩)(sQ:mM w (ρ id)=arr.size)(hc:zX (XO X ρ hp) w c arr) :
  jY E X w0 ρ al fr (Cy hp id (some ⟨b.e,c⟩)) a (w.setRow (ρ id) arr):=by
 obtain⟨Oh,bPW,hg,_⟩:=h.blk id b hb;have uL:(w.setRow (ρ id) arr).heap[ρ id]?=some (.cells arr b.e (0,0)):=setRow_heap w (ρ id) bPW arr b.e _ hg;have hold:∀k,k≠ρ id->(w.setRow (ρ id) arr).heap[k]?=w.heap[k]?:=fun k hk=>setRow_other w (ρ id) k arr (fun e=>hk e)
 have uK:∀b',Own ρ (Cy hp id (some ⟨b.e,c⟩)) b'->Own ρ hp b':=by
  rintro b' ⟨i,bl,h1,h2⟩
  by_cases hi:i=id
  ·subst hi;exact⟨i,b,hb,h2⟩
  ·rw[gB _ _ hi]at h1;exact⟨i,bl,h1,h2⟩
 have hl:iT (XO X ρ hp) w (XO X ρ (Cy hp id (some ⟨b.e,c⟩))) (w.setRow (ρ id) arr):=by
  refine⟨by simp[World.setRow],fun b' tR hx=>⟨hold b' (fun e=>hx (.inr ⟨id,b,hb,e.symm⟩)),fun ho=>hx (ho.imp (fun h=>h) (uK b'))⟩⟩
 have Bq:∀i b',hp i=some b'->i≠id->ρ i≠ρ id:=fun i b' hi Bp e=>Bp (h.inj i id b' b hi hb e)
 refine h.change hl ⟨rfl,rfl,rfl,by simp[World.setRow],fun k hk=>hold k (fun e=>hk (e▸Oh.Kl)),fun k _=>by
  by_cases hk:k=ρ id
  ·rw[hk,sQ];unfold mM;rw[uL]
  ·exact yL (hold k hk)⟩ ?_ ?_ ?_ (fun _ h=>h) ?_
 ·intro i _;refine⟨rfl,fun b' tR=>?_⟩
  by_cases hi:i=id
  ·subst hi;rw[bW]at tR;cases tR;refine⟨b,hb,hs,?_⟩;rw[sQ];unfold mM;rw[uL]
  ·rw[gB _ _ hi]at tR;refine⟨b',tR,sameShape.refl _,?_⟩;unfold mM;rw[hold _ (Bq i b' tR hi)]
 ·intro i b' tR
  by_cases hi:i=id
  ·subst hi;rw[bW]at tR;cases tR;exact⟨Oh,arr,uL,hc.later hl⟩
  ·rw[gB _ _ hi]at tR;exact⟨(h.blk i b' tR).1,(h.blk i b' tR).2.later hl (hold _ (Bq i b' tR hi))⟩
 ·intro i i' b1 b2 h1 h2 e;have f:∀i b1,Cy hp id (some ⟨b.e,c⟩) i=some b1->∃b2,hp i=some b2:=by
   intro i b1 h1
   by_cases hi:i=id
   ·subst hi;exact⟨b,hb⟩
   ·rw[gB _ _ hi]at h1;exact⟨b1,h1⟩
  obtain⟨c1,aBD⟩:=f i b1 h1;obtain⟨c2,aVF⟩:=f i' b2 h2;exact h.inj i i' c1 c2 aBD aVF e
 ·intro i b1 h1
  by_cases hi:i=id
  ·subst hi;exact h.alh i b hb
  ·rw[gB _ _ hi]at h1;exact h.alh i b1 h1
theorem jY.Sv(h:jY E X w0 ρ al fr hp a w){id:Nat}{b:kY}(hb:hp id=some b){u:rL}(hu:Cons u)(xH:(id,none)∈u):¬XO X ρ (applyUps u hp) (ρ id):=by
 rintro (hx |⟨i,bl,h1,h2⟩)
 ·exact h.x0 _ hx (h.blk id b hb).1.Kl
 ·have:=h.inj i id bl b (iV hu h1) hb h2;subst this;rw[Rm hu xH]at h1;cases h1
theorem jY.zM(h:jY E X w0 ρ al fr hp a w){id:Nat}{e:TypeId}{k:IntKind}{ns:List Int}(hb:hp id=some ⟨e,.ints k ns⟩){i:Nat}{n:Int}(hi:ns[i]?=some n):w.cell? ⟨ρ id,i,none⟩=some (.int k n):=by
 obtain⟨_,arr,hg,hc⟩:=h.blk id _ hb;rw[cell_of_row w (ρ id) i arr e (0,0) hg];exact hc.2 i n hi
theorem xU(h:jY E X w0 ρ al fr hp a w){x:A}{v:Value}(hr:xW ρ hp (XO X ρ hp) w x v){cs:List S}{u:rL}(hc:cellsOf hp x=some (cs,u)) :
  Cons u/\jO (XO X ρ (applyUps u hp)) w cs v.cells.toList:=by
 unfold cellsOf at hc;split at hc
 ·cases hc;obtain⟨arr,rfl,hs⟩:=hr;exact⟨(fun p hp=>by cases hp),hs⟩
 ·cases hc;rename_i x;have hr:pM _ w x v:=hr;refine⟨(fun p hp=>by cases hp),?_⟩;have e:v.cells.toList=[v]:=by
   have:=hr.one;cases v <;> first |rfl | (simp[Value.oneCell']at this)
  rw[e];refine⟨rfl,fun i s u hs hu=>?_⟩
  match i with
  |0=>simp at hs hu;subst hs;subst hu;exact hr
  |i+1=>simp at hs
 ·split at hc <;> cases hc;rename_i id n o e k ns hb;obtain⟨cap,rfl,Dv,bAY,_⟩:=hr;have hu:Cons [(id,none)]:=fun p hp=>by simp at hp;subst hp;rfl
  refine⟨hu,rfl,fun i s u hs Yv=>?_⟩
  match i with
  |0 =>
   simp[Value.cells]at hs Yv;subst hs;subst Yv;obtain⟨hn,_⟩:=bAY _ k ns hb rfl;subst hn;refine⟨_,cap,rfl,Dv,fun i n hi=>⟨ρ id,0,rfl,h.kB hb,h.Sv hb hu (by simp),?_⟩⟩;rw[cBG];exact h.zM hb hi
  |i+1=>simp at hs
 ·split at hc <;> cases hc;rename_i id off n o e k ns hb;obtain⟨A0,cap,rfl,Dv,hA,hlen⟩:=xY hr;have hu:Cons [(id,none)]:=fun p hp=>by simp at hp;subst hp;rfl
  have hl:=hlen _ k ns hb rfl;refine⟨hu,rfl,fun i s u hs Yv=>?_⟩
  match i with
  |0 =>
   simp[Value.cells]at hs Yv;subst hs;subst Yv;refine⟨A0,cap,by simp;omega,by simp;omega,fun i m hi=>?_⟩;have Zc:i<n:=by
    have:=(List.getElem?_eq_some_iff.1 hi).1;simp at this;omega
   refine⟨ρ id,off,hA (by omega),h.kB hb,h.Sv hb hu (by simp),?_⟩;refine h.zM hb ?_;rw[cBJ Zc,cBR]at hi;exact hi
  |i+1=>simp at hs
 ·cases hc
end
end AI
namespace AI
open Go Go.RowKit
def uJ:TypeDesc->Bool
 | .struct _ | .array _ _=>true
 |_=>false
def Py(P:Program):TK->TypeDesc->Prop
 | .bool,d=>d=.bool
 | .int k,d=>d=.int k
 | .float k,d=>d=.float k
 | .other,d=>uJ d=false
 | .struct fs,d=>∃fields,d=.struct fields/\fs.length=fields.size/\∀(i:Nat) (f:Field),fields[i]?=some f->∃fi fd,P.info? f.type=some fi/\P.underlying f.type=some fd/\fs[i]?=some (f.offset,fi.size,uJ fd)
 | .arr len rJ g,d=>∃e ei ed,d=.array len e/\P.info? e=some ei/\ei.size=rJ/\P.underlying e=some ed/\uJ ed=g
 | .slice e,d=>d=.slice e
 | .str,d=>d=.string
def bIC:EK->TypeDesc->Bool
 | .int k,.int k'=>decide (k'=k)
 | .bool,.bool=>true
 | .float k,.float k'=>decide (k'=k)
 |_,_=>false
def eqChkF(P:Program):Nat->List Field->List EK->Bool
 |_,[],[]=>true
 |i,f :: r,k :: ks=>(f.name != "_")&&(cBF f.offset i&&((match P.underlying f.type with
  |some d=>bIC k d
  |none=>false)&&eqChkF P (i+1) r ks))
 |_,_,_=>false
def bDA(P:Program)(t:TypeId)(ks:List EK):Prop:=∃fields,P.underlying t=some (.struct fields)/\P.stoodInHeld t=false/\eqChkF P 0 fields.toList ks=true/\P.eqGuardType P.depth t=false
structure Cc(P:Program)(t:TypeId)(ti:TI):Prop where
 i:∃i,P.info? t=some i/\i.size=ti.size/\i.bytes=ti.bytes/\∃z,i.zero=some z/\z.cells.toList=ti.zero
 zl:ti.zero.length=ti.size
 zo:∀v∈ti.zero,v.oneCell'=true
 d:∃d,P.underlying t=some d/\Py P ti.kind d
 eq:∀ks,yZ ti=some ks->bDA P t ks
def pK(P:Program)(T:TypeId->Option TI):Prop:=∀t ti,T t=some ti->Cc P t ti
theorem Py.agg{P:Program}{k:TK}{d:TypeDesc}(h:Py P k d):uJ d=k.isAgg:=by
 cases k with
 |other=>exact h
 |struct fs=>obtain⟨f,rfl,_⟩:=h;rfl
 |arr l e g=>obtain⟨_,_,_,rfl,_⟩:=h;rfl
 |_=>cases h;rfl
section
variable {P:Program} {t:TypeId} {ti:TI} {w:World}
theorem Cc.Sb(h:Cc P t ti):(isAgg t).run P w=.ok ti.kind.isAgg w:=by
 obtain⟨d,hd,hk⟩:=h.d;rw[<-hk.agg];unfold isAgg;rw[Sem.run_bind,run_underlying hd];cases d <;> rfl
theorem aDG{k:EK}{c d:S}{p:Bool}(he:eqCell k c d=some p){f:TypeId}{desc:TypeDesc}(hu:P.underlying f=some desc)(hk:bIC k desc=true)(n:Nat) :
  ∃x y,c=.sc x/\d=.sc y/\(Op.equalIn (n+1) f x y).run P w=.ok p w/\∀(cs:Array Value) (i:Nat) (v:Value),cs[i]?=some v->(part f cs i).run P w=.ok v w:=by
 have bLD:(isAgg f).run P w=.ok false w->∀(cs:Array Value) (i:Nat) (v:Value),cs[i]?=some v->(part f cs i).run P w=.ok v w:=by
  intro ha cs i v hv;unfold part;rw[Sem.run_bind,ha];simp[hv]
 unfold eqCell at he;split at he
 ·split at he
  ·rename_i hh;obtain⟨rfl,rfl⟩:=hh;cases he;cases desc <;> first | (cases hk;done) |skip
   exact⟨_,_,rfl,rfl,run_equalIn_int w n f _ _ _ _ hu,bLD (by simp[isAgg,Sem.run_bind,run_underlying hu])⟩
  ·cases he
 ·cases he;cases desc <;> first | (cases hk;done) |skip
  exact⟨_,_,rfl,rfl,run_equalIn_bool w n f _ _ hu,bLD (by simp[isAgg,Sem.run_bind,run_underlying hu])⟩
 ·split at he
  ·rename_i hh;obtain⟨rfl,rfl⟩:=hh;cases he;cases desc <;> first | (cases hk;done) |skip
   exact⟨_,_,rfl,rfl,by simp[Op.equalIn,run_underlying hu,Op.floatEq],bLD (by simp[isAgg,Sem.run_bind,run_underlying hu])⟩
  ·cases he
 ·cases he
theorem aHA(d:Nat)(xs ys:Array Value):∀(fs:List Field) (ks:List EK) (i:Nat) (cs ds:List S) (q:Bool),eqChkF P i fs ks=true->eqInts ks cs ds=some q ->
  (∀(j:Nat) (c:Value),cs[j]?=some (.sc c)->xs[i+j]?=some c)->(∀(j:Nat) (c:Value),ds[j]?=some (.sc c)->ys[i+j]?=some c)->(Op.eqFields (d+1) xs ys fs).run P w=.ok q w
 | [],ks,i,cs,ds,q,h,he,hx,hy=>by
  cases ks with
  |cons=>cases h
  |nil =>
   have:q=true:=by cases cs <;> cases ds <;> simp[eqInts]at he <;> exact he
   subst this;rfl
 |f :: r,ks,i,cs,ds,q,h,he,hx,hy=>by
  cases ks with
  |nil=>cases h
  |cons k ks =>
   unfold eqChkF at h;simp only[cBK,bne_iff_ne,ne_eq]at h;obtain⟨hn,ho,hu,hr⟩:=h;have ho:=cBT ho;split at hu
   ·rename_i desc Yv;obtain⟨c,d',r1,r2,p,q',rfl,rfl,hp,hq,rfl⟩:∃c d' r1 r2 p q',cs=c :: r1/\ds=d' :: r2/\eqCell k c d'=some p/\eqInts ks r1 r2=some q'/\q=(p&&q'):=by
     clear hx hy
     match cs,ds,he with
     |c :: r1,d' :: r2,Df =>
      simp only[eqInts]at Df;split at Df
      ·rename_i p hp;obtain⟨q',hq,rfl⟩:=Option.map_eq_some_iff.1 Df;exact⟨c,d',r1,r2,p,q',rfl,rfl,hp,hq,rfl⟩
      ·cases Df
    obtain⟨a,b,rfl,rfl,heq,bGB⟩:=aDG (w:=w) hp Yv hu d;have x0:=hx 0 _ rfl;have y0:=hy 0 _ rfl;have ih:=aHA d xs ys r ks (i+1) r1 r2 q' hr hq (fun j c hc=>by have:=hx (j+1) c hc;rwa [show i+(j+1)=i+1+j from by omega]at this) (fun j c hc=>by have:=hy (j+1) c hc;rwa [show i+(j+1)=i+1+j from by omega]at this);rw[cCC,<-ho]at x0 y0;simp only[Op.eqFields,ne_eq,hn,not_false_eq_true,if_true,Sem.run_bind,bGB _ _ _ x0,bGB _ _ _ y0,Result.andThen_ok,heq];cases p with
    |true=>simpa [Sem.run_ite] using ih
    |false=>simp
   ·cases hu
theorem bBO{ks:List EK}(h:bDA P t ks){xs ys:Array Value}{cs ds:List S}{q:Bool}(he:eqInts ks cs ds=some q)
  (hx:∀(j:Nat) (c:Value),cs[j]?=some (.sc c)->xs[j]?=some c) (hy:∀(j:Nat) (c:Value),ds[j]?=some (.sc c)->ys[j]?=some c) :
  (∀y z,(do eqGuard .eql t y z (.agg xs) (.agg ys);binOp .eql t (.agg xs) (.agg ys):Sem Value).run P w=.ok (.bool q) w)/\(∀y z,(do eqGuard .neq t y z (.agg xs) (.agg ys);binOp .neq t (.agg xs) (.agg ys):Sem Value).run P w=.ok (.bool (!q)) w):=by
 obtain⟨fields,hu,hs,hf,hg⟩:=h;have aLF:P.fieldsOf t=fields:=by simp[Program.fieldsOf,hu]
 have hr:(Op.equal t (.agg xs) (.agg ys)).run P w=.ok q w:=by
  show(Op.equalIn (9999+1) t (.agg xs) (.agg ys)).run P w=_;rw[run_equalIn_struct w 9999 t xs ys (by rw[aLF];exact hu) hs,aLF];exact aHA (w:=w) 9998 xs ys fields.toList ks 0 cs ds q hf he (fun j c hc=>by rw[cBG];exact hx j c hc) (fun j c hc=>by rw[cBG];exact hy j c hc)
 constructor <;> intro y z <;> rw[Sem.run_bind,run_eqGuard_agg (w:=w) _ t y z xs ys hg,Result.andThen_ok]
 ·show(do pure (Value.bool (<-Op.equal t (.agg xs) (.agg ys))):Sem Value).run P w=_;rw[Sem.run_bind,hr];rfl
 ·show(do pure (Value.bool (!(<-Op.equal t (.agg xs) (.agg ys)))):Sem Value).run P w=_;rw[Sem.run_bind,hr];rfl
theorem Cc.run_sizeOf(h:Cc P t ti):(sizeOf t).run P w=.ok ti.size w:=by
 obtain⟨i,hi,hs,_⟩:=h.i;simp[sizeOf,typeInfo,hi,hs]
theorem Cc.aND(h:Cc P t ti):∃z,(zeroValue t).run P w=.ok z w/\z.cells.toList=ti.zero:=by
 obtain⟨i,hi,hs,hb,z,hz,hc⟩:=h.i;exact⟨z,by simp[zeroValue,typeInfo,hi,hz],hc⟩
end
theorem aX{α:Type}{l:List α}{i:Nat}{x:α}(h:l[i]?=some x):i<l.length:=(List.getElem?_eq_some_iff.1 h).1
theorem bG{α:Type}{l:List α}{i:Nat}(h:i<l.length):∃x,l[i]?=some x:=⟨l[i],cBV h⟩
theorem mU(b off n:Nat):(⟨b,off,none⟩:Addr).add n=⟨b,off+n,none⟩:=by unfold Addr.add;split <;> simp_all
theorem Xd{X:Nat->Prop}{w:World}{zs:List Value}(hz:∀v∈zs,v.oneCell'=true):jO X w (zs.map .sc) zs:=by
 refine⟨by simp,fun i s u hs hu=>?_⟩;simp only[cBI,hu,cBS,Option.some.injEq]at hs;subst hs;exact⟨rfl,hz u (cBN hu)⟩
theorem aLP{X:Nat->Prop}{w:World}{zs:List Value}(wd:Option IntKind)(hz:∀v∈zs,v.oneCell'=true):jO X w (zs.map (wideS wd)) zs:=by
 refine⟨by simp,fun i s u hs hu=>?_⟩;simp only[cBI,hu,cBS,Option.some.injEq]at hs;subst hs;have h0:=hz u (cBN hu);unfold wideS;split
 ·exact⟨rfl,h0⟩
 ·split
  ·exact⟨none,0,rfl,cBE _,fun i n hn=>by simp at hn⟩
  ·exact⟨rfl,h0⟩
theorem jO.cells{X:Nat->Prop}{w:World}{cs:List S}{arr:Array Value}(h:jO X w cs arr.toList):zX X w (.cells cs) arr :=
 ⟨by have:=h.1;simp at this;omega,fun i s hs=>by
  have kM:=aX hs;rw[h.1]at kM;obtain⟨u,hu⟩:=bG kM;exact⟨u,by simpa using hu,h.2 i s u hs hu⟩⟩
theorem Ls{P:Program}{X:Nat->Prop}{w:World}{t:TypeId}{ti:TI}(hT:Cc P t ti){b off:Nat}{cs:List S}(hc:∀(i:Nat) (s:S),cs[i]?=some s->∃u,w.cell? ⟨b,off+i,none⟩=some u/\pM X w s u)
  {j:Nat} {x:V} (hp:partOf ti cs j=some x) {ρ:Nat->Nat} {hp':Nat->Option kY}:∃v,(loadVar t ⟨b,off+j,none⟩).run P w=.ok v w/\He ρ hp' X w x v/\refsV x=[]:=by
 unfold partOf at hp;unfold loadVar;rw[Sem.run_bind,hT.Sb,Result.andThen_ok];split at hp
 ·rename_i aDA;split at hp
  ·rename_i hle;cases hp;rw[if_pos aDA,Sem.run_bind,hT.run_sizeOf,Result.andThen_ok];have hex:∀i,i<ti.size->∃u,w.cell? ⟨b,off+j+i,none⟩=some u/\∀s,cs[j+i]?=some s->pM X w s u:=by
    intro i hi;obtain⟨s,hs⟩:=bG (l:=cs) (i:=j+i) (by omega);obtain⟨u,hu,hr⟩:=hc (j+i) s hs;refine⟨u,by rw[<-hu];congr 2;omega,fun s' rT=>?_⟩;rw[hs]at rT;cases rT;exact hr
   obtain⟨f,hf⟩:∃f:Nat->Value,∀i,i<ti.size->w.cell? ⟨b,off+j+i,none⟩=some (f i)/\∀s,cs[j+i]?=some s->pM X w s (f i) :=
    ⟨fun i=>if h:i<ti.size then Classical.choose (hex i h)else undef,fun i hi=>by simp only[hi,dif_pos];exact Classical.choose_spec (hex i hi)⟩
   have hl:=run_loadCells_list (P:=P) w ⟨b,off+j,none⟩ ((cCR ti.size).map f) (fun i v hv=>by
    have hi:=aX hv;simp at hi;rw[mU,(hf i hi).1];simpa [hi] using hv)
   simp only[cCS,List.length_range]at hl;rw[Sem.run_bind,hl];refine⟨_,rfl,⟨_,rfl,⟨by simp;omega,fun i s u hs hu=>?_⟩⟩,rfl⟩;have hi:=aX hu;simp at hi;have Yv:u=f i:=by simpa [hi] using hu.symm
   subst Yv;refine(hf i hi).2 s ?_;rw[cBJ hi,cBR]at hs;exact hs
  ·cases hp
 ·rename_i aDA;split at hp <;> cases hp;rename_i c bOJ;obtain⟨u,hu,hr⟩:=hc j c bOJ;refine⟨u,?_,hr,rfl⟩;rw[if_neg (by simpa using aDA),run_load,hu]
theorem List.rZ{α:Type}(cs new:List α)(off i:Nat)(h:off+new.length<=cs.length) :
  (cs.take off ++ (new ++ cs.drop (off+new.length)))[i]?=if off<=i/\i<off+new.length then new[i-off]? else cs[i]?:=by
 by_cases h1:i<off
 ·rw[cCK (by simp;omega),cBJ h1,aO]
 ·rw[cCL (by simp;omega)];have e:(cs.take off).length=off:=by simp;omega
  rw[e]
  by_cases h2:i<off+new.length
  ·rw[cCK (by omega),aQ]
  ·rw[cCL (by omega),aO,cBR];congr 1;omega
theorem Xm{X:Nat->Prop}{w:World}{cs new:List S}{arr:Array Value}{aII:List Value}(h:zX X w (.cells cs) arr)(hn:jO X w new aII){off:Nat}(hle:off+new.length<=cs.length) :
  zX X w (.cells (setAt cs off new)) (arr.toList.take off ++ (aII ++ arr.toList.drop (off+aII.length))).toArray:=by
 have h1:=h.1;have h2:off+aII.length<=arr.toList.length:=by rw[<-hn.1];simp;omega
 refine⟨by simp[setAt];have:=hn.1;omega,fun i s hs=>?_⟩;unfold setAt at hs;rw[List.rZ _ _ _ _ hle]at hs;have e:(arr.toList.take off ++ (aII ++ arr.toList.drop (off+aII.length))).toArray[i]?=(arr.toList.take off ++ (aII ++ arr.toList.drop (off+aII.length)))[i]?:=by simp
 rw[e,List.rZ _ _ _ _ h2,<-hn.1];split at hs
 ·rename_i hi;rw[if_pos hi];have kM:=aX hs;rw[hn.1]at kM;obtain⟨u,hu⟩:=bG kM;exact⟨u,hu,hn.2 _ s u hs hu⟩
 ·rename_i hi;rw[if_neg hi];obtain⟨u,hu,hr⟩:=h.2 i s hs;exact⟨u,by simpa using hu,hr⟩
theorem aBQ{X:Nat->Prop}{w:World}{cs new:List S}{vs aII:List Value}(h:jO X w cs vs)(hn:jO X w new aII){off:Nat}(hle:off+new.length<=cs.length) :
  jO X w (setAt cs off new) (vs.take off ++ (aII ++ vs.drop (off+aII.length))):=by
 have h1:=h.1;have h2:=hn.1;refine⟨by unfold setAt;simp;omega,fun i s u hs hu=>?_⟩;unfold setAt at hs;rw[List.rZ cs new off i hle]at hs;rw[List.rZ vs aII off i (by omega)]at hu
 by_cases hi:off<=i/\i<off+new.length
 ·rw[if_pos hi]at hs;rw[aQ]at hu;exact hn.2 _ s u hs hu
 ·rw[if_neg hi]at hs;rw[aO]at hu;exact h.2 _ s u hs hu
end AI
namespace AI
open Go Go.RowKit
def pA(al:Nat->Prop)(id:Nat):Nat->Prop:=fun i=>al i\/(id<=i/\i<id+8)
section
variable {P:Program} {E:Env} {X:Nat->Prop} {w0:Old} {ρ:Nat->Nat} {al:Nat->Prop} {fr:Nat->A} {hp:Nat->Option kY} {a:Act} {w:World} {o:Oper} {id:Nat} {x:A} {u:rL}
def kN(P:Program)(E:Env)(X:Nat->Prop)(w0:Old)(al:Nat->Prop)(fr:Nat->A)(hp:Nat->Option kY)(a:Act)(w:World)(o:Oper)(id:Nat)(x:A)(u:rL):Prop :=
 ∃ρ' v w',((execOp a.eval o).run P w=.ok (.value v) w'\/((execOp a.eval o).run P w=.ok .skip w'/\v=undef))/\jY E X w0 ρ' (pA al id) (Er o x fr) (applyUps u hp) (a.put o.dst v) w'
theorem jY.more(h:jY E X w0 ρ al fr hp a w)(id:Nat):jY E X w0 ρ (pA al id) fr hp a w :=
 { fr:=h.fr,sz:=h.sz,nod:=h.nod,blk:=h.blk,inj:=h.inj,alh:=fun i b hb=>.inl (h.alh i b hb),alr:=fun t i hi=>.inl (h.alr t i hi),below:=h.below,x0:=h.x0,glob:=h.glob,mg:=h.mg,al0:=fun i hi=>.inl (h.al0 i hi),xF:=h.xF }
theorem cS(h:jY E X w0 ρ al fr hp a w)(hd:jX E.nt o=true){v:Value}(gY:(execOp a.eval o).run P w=.ok (.value v) w)(hx:xW ρ hp (XO X ρ hp) w x v)(bFM:∀i∈refs x,al i) :
  kN P E X w0 al fr hp a w o id x [] :=
 ⟨ρ,v,w,.inl gY,(h.more id).pure hd hx (fun i hi=>.inl (bFM i hi))⟩
theorem nP(v:Value):refs (Dr v)=[]:=rfl
theorem Zp(h:jY E X w0 ρ al fr hp a w)(hd:jX E.nt o=true){y:Operand}(ho:o.op=.move y\/o.op=.assign y)(he:rU E id o (evA E fr) hp=some (x,u)):kN P E X w0 al fr hp a w o id x u:=by
 have h1:=h.ev y;rcases ho with ho |ho
 all_goals
  unfold rU effK at he;rw[ho]at he;cases he;exact cS h hd (v:=a.eval y) (by unfold execOp;rw[ho];rfl) h1.1 h1.2
theorem aPY(h:jY E X w0 ρ al fr hp a w)(hd:jX E.nt o=true){c y z:Operand}(ho:o.op=.pick c y z)(he:rU E id o (evA E fr) hp=some (x,u)):kN P E X w0 al fr hp a w o id x u:=by
 have hc:=(h.ev c).1;have hy:=h.ev y;have hz:=h.ev z;have gY:∀t,a.eval c=.bool t->(execOp a.eval o).run P w=.ok (.value (if t then a.eval y else a.eval z)) w:=by
  intro t ht;unfold execOp;rw[ho];simp[ht,asBool]
 unfold rU effK at he;rw[ho]at he;simp only at he;split at he
 ·rename_i t bOG;rw[bOG]at hc;have bAW:a.eval c=.bool t:=hc.1;split at he
  ·rename_i p q Ao Ql;cases he;rw[Ao]at hy;rw[Ql]at hz;have e1:a.eval y=.bool p:=hy.1.1;have e2:a.eval z=.bool q:=hz.1.1;refine cS h hd (gY t bAW) ?_ (by simp[nP]);rw[e1,e2];cases t <;> exact⟨rfl,rfl⟩
  ·cases t <;> cases he
   ·exact cS h hd (gY false bAW) (by simpa using hz.1) hz.2
   ·exact cS h hd (gY true bAW) (by simpa using hy.1) hy.2
 ·cases he
theorem sJ(id:Nat):pA al id id:=.inr ⟨cBE _,by omega⟩
theorem Mz(e:TypeId)(v:Value):(newVar e v).run P w=.ok ⟨w.heap.size,0,none⟩ (w.alloc (.cells v.cells e)):=rfl
theorem aJS(h:jY E X w0 ρ al fr hp a w)(hd:jX E.nt o=true)(hT:pK P E.T)(xH:∀j,j<8->¬al (id+j)){e:TypeId}(ho:o.op=.alloc e)(he:rU E id o (evA E fr) hp=some (x,u)):kN P E X w0 al fr hp a w o id x u:=by
 unfold rU effK at he;rw[ho]at he;simp only at he;split at he
 ·rename_i ti yS;cases he;have ht:=hT e ti yS;obtain⟨z,hz,Qw⟩:=ht.aND (w:=w);have Km:zX (XO X ρ hp) w (.cells (ti.zero.map (wideS E.wide))) z.cells:=by
   refine jO.cells ?_;rw[Qw];exact aLP E.wide ht.zo
  have h1:=h.alloc (id:=id) (al':=pA al id) (xH 0 (by omega)) (fun _ h=>.inl h) (sJ id) e _ _ Km;refine⟨_,.pointer (some ⟨w.heap.size,0,none⟩),_,.inl ?_,h1.pure hd (x:=.v (.one (.ptr id 0))) ?_ ?_⟩
  ·unfold execOp;rw[ho];simp only[Instr.alloc,Sem.run_bind,hz,Result.andThen_ok,Sem.run_pure,Mz]
  ·show _=_;rw[bW]
  ·intro i hi;simp only[refs,refsV,refsL,cBW]at hi;subst hi;exact sJ i
 ·cases he
theorem aVS(h:jY E X w0 ρ al fr hp a w)(hd:jX E.nt o=true)(xH:∀j,j<8->¬al (id+j)){e:TypeId}{y:Operand}(ho:o.op=.box e y)(he:rU E id o (evA E fr) hp=some (x,u)):kN P E X w0 al fr hp a w o id x u:=by
 unfold rU effK at he;rw[ho]at he;simp only at he;split at he
 ·rename_i ti cs u1 yS Vb;split at he <;> cases he;obtain⟨hu,Km⟩:=xU h (h.ev y).1 Vb;have h0:=h.cons hu;have h1:=h0.alloc (id:=id) (al':=pA al id) (xH 0 (by omega)) (fun _ h=>.inl h) (sJ id) e (.cells cs) _ Km.cells;unfold kN;rw[lV];refine⟨_,.pointer (some ⟨w.heap.size,0,none⟩),_,.inl ?_,h1.pure hd (x:=.v (.one (.ptr id 0))) ?_ ?_⟩
  ·unfold execOp;rw[ho];simp only[Instr.box,Sem.run_bind,Result.andThen_ok,Sem.run_pure,Mz]
  ·show _=_;rw[bW]
  ·intro i hi;simp only[refs,refsV,refsL,cBW]at hi;subst hi;exact sJ i
 ·cases he
theorem aPZ(h:jY E X w0 ρ al fr hp a w)(hd:jX E.nt o=true)(hT:pK P E.T){t:TypeId}{y:Operand}(ho:o.op=.load t y)(he:rU E id o (evA E fr) hp=some (x,u)):kN P E X w0 al fr hp a w o id x u:=by
 have hy:=(h.ev y).1;have gY:∀ad v,a.eval y=.pointer (some ad)->(loadVar t ad).run P w=.ok v w->(execOp a.eval o).run P w=.ok (.value v) w:=by
  intro ad v h1 h2;unfold execOp;rw[ho];simp only[h1,Instr.loadAt,Instr.sureAddr,Sem.run_bind,Sem.run_pure,Result.andThen_ok,h2]
 unfold rU effK at he;rw[ho]at he;simp only at he;split at he
 ·rename_i ti yS;have ht:=hT t ti yS;split at he
  ·rename_i i off jT;rw[jT]at hy;have hy:a.eval y=.pointer (some ⟨ρ i,off,none⟩):=hy;split at he
   ·rename_i e cs hb;obtain⟨_,arr,hg,hc⟩:=h.blk i _ hb;split at he <;> cases he;rename_i v hv;obtain⟨v',h1,h2,h3⟩:=Ls (P:=P) ht (b:=ρ i) (off:=0) (cs:=cs) (fun j s hs=>by
     obtain⟨u,hu,hr⟩:=hc.2 j s hs;exact⟨u,by rw[cell_of_row w (ρ i) _ arr e (0,0) hg];simpa using hu,hr⟩) hv (ρ:=ρ) (hp':=hp)
    rw[cBG]at h1;exact cS h hd (gY _ _ hy h1) h2 (by simp[refs,h3])
   ·cases he
  ·rename_i i j jT;rw[jT]at hy;obtain⟨hy,kM⟩:=hy;split at he
   ·rename_i e k ns hb aDA;cases he;have hj:=kM _ k ns hb rfl;have hc:=h.zM hb (cBV hj);refine cS h hd (v:=.int k (ns.getD j 0)) (gY _ _ hy ?_) ⟨rfl,rfl⟩ (by simp[nP]);unfold loadVar;rw[Sem.run_bind,ht.Sb,Result.andThen_ok,if_neg (by simp[aDA]),run_load,hc];simp[cCY,hj]
   ·cases he
  ·rename_i cs jT;rw[jT]at hy;obtain⟨b,off,hy,hc⟩:=hy;split at he <;> cases he;rename_i v hv;obtain⟨v',h1,h2,h3⟩:=Ls (P:=P) ht (b:=b) (off:=off) (cs:=cs) (fun j s hs=>by
    obtain⟨_,_,u,hu,hr⟩:=hc j s hs;exact⟨u,hu,hr⟩) hv (ρ:=ρ) (hp':=hp)
   rw[cCC]at h1;exact cS h hd (gY _ _ hy h1) h2 (by simp[refs,h3])
  ·rename_i z jT;rw[jT]at hy;obtain⟨hz,b,off,hy,hb,hx,hc⟩:=hy;split at he <;> cases he;rename_i v hv;obtain⟨v',h1,h2,h3⟩:=Ls (P:=P) ht (b:=b) (off:=off) (cs:=[.sc z]) (fun j s hs=>by
    match j with
    |0=>simp at hs;subst hs;exact⟨z,hc,⟨rfl,hz⟩⟩
    |j+1=>simp at hs) hv (ρ:=ρ) (hp':=hp)
   rw[cCC]at h1;exact cS h hd (gY _ _ hy h1) h2 (by simp[refs,h3])
  ·cases he
 ·cases he
theorem Gr(h:jY E X w0 ρ al fr hp a w):∀{Iw:List Operand} {xs:List Value} {u:rL},capsOf hp (Iw.map (evA E fr))=some (xs,u) ->
  Cons u/\(∀U,Cons U->(∀p∈u,p∈U)->Tm (XO X ρ (applyUps U hp)) w xs (Iw.map a.eval))
 | [],xs,u,hc=>by cases hc;exact⟨(fun p hp=>by cases hp),fun _ _ _=>⟨rfl,fun i x p hx=>by simp at hx⟩⟩
 |c :: Iw,xs,u,hc=>by
  rw[cBD]at hc;have jT:=(h.ev c).1;generalize hA:evA E fr c=A0 at hc jT;unfold capsOf at hc;split at hc
  ·rename_i he;cases he
  ·rename_i i r he;cases he;split at hc
   ·rename_i e x bUG u' hb hr;cases hc;obtain⟨hu,Io⟩:=Gr h hr;have bHI:Cons ((i,none) :: u'):=fun p hp=>by
     rcases List.mem_cons.1 hp with rfl |hp
     ·rfl
     ·exact hu p hp
    refine⟨bHI,fun U hU aIU=>?_⟩;obtain⟨hl,hp⟩:=Io U hU (fun p hp=>aIU p (cBP _ hp));refine⟨by simp[hl],fun j y p hy hp'=>?_⟩
    match j with
    |0 =>
     simp at hy hp';subst hy;subst hp';have hv:a.eval c=.pointer (some ⟨ρ i,0,none⟩):=jT;obtain⟨_,arr,hg,Vb⟩:=h.blk i _ hb;obtain⟨v,aCN,bWR⟩:=Vb.2 0 (.sc x) rfl;obtain⟨rfl,Kn⟩:=bWR;exact⟨Kn,ρ i,0,hv,h.kB hb,h.Sv hb hU (aIU _ (by simp)),by rw[cell_of_row w (ρ i) _ arr e (0,0) hg];exact aCN⟩
    |j+1=>exact hp j y p (by simpa using hy) (by simpa using hp')
   ·cases hc
  ·cases hc
theorem Vn(h:jY E X w0 ρ al fr hp a w)(hd:jX E.nt o=true){f:FuncId}{Iw:Array Operand}(ho:o.op=.makeFunc (.func f) ⟨[]⟩ Iw)(he:rU E id o (evA E fr) hp=some (x,u)):kN P E X w0 al fr hp a w o id x u:=by
 obtain⟨Iw⟩:=Iw;unfold rU effK at he;rw[ho]at he;simp only at he;split at he <;> cases he;rename_i xs hc;obtain⟨hu,Io⟩:=Gr h hc;have h0:=h.cons hu;unfold kN;refine⟨_,.func (.func f) #[] (Iw.map a.eval).toArray,_,.inl ?_,(h0.more id).pure hd (x:=.v (.one (.s (.Vu f xs)))) ⟨_,rfl,Io u hu fun _ h=>h⟩ (by intro i hi;simp[refs,refsV,refsL]at hi)⟩;unfold execOp;rw[ho];simp[Instr.makeFunc]
theorem lU{g:Nat}{arr:Array Value}{e:TypeId}{f:Nat×Nat}(h:w.heap[g]?=some (.cells arr e f)):mM w g=arr.size:=by unfold mM;rw[h]
theorem aJM(h:jY E X w0 ρ al fr hp a w)(hd:jX E.nt o=true)(hT:pK P E.T){t:TypeId}{y z:Operand}(ho:o.op=.store t y z)(he:rU E id o (evA E fr) hp=some (x,u)):kN P E X w0 al fr hp a w o id x u:=by
 have hy:=(h.ev y).1;have hz:=(h.ev z).1;have gY:∀ad w',a.eval y=.pointer (some ad)->(storeVar t ad (a.eval z)).run P w=.ok () w'->(execOp a.eval o).run P w=.ok .skip w':=by
  intro ad w' h1 h2;unfold execOp;rw[ho];simp only[h1,Instr.storeAt,Instr.sureAddr,Sem.run_bind,Sem.run_pure,Result.andThen_ok,h2]
 unfold rU effK at he;rw[ho]at he;simp only at he;split at he
 ·rename_i ti yS;have ht:=hT t ti yS;split at he
  ·rename_i i off jT;rw[jT]at hy;have hy:a.eval y=.pointer (some ⟨ρ i,off,none⟩):=hy;split at he
   ·rename_i e cs new u1 hb bYN;split at he <;> cases he;rename_i Oe;obtain⟨Jy,bNN,bWI⟩:=Oe;obtain⟨hu,Km⟩:=xU h hz bYN;have h0:=h.cons hu;have hb0:applyUps u1 hp i=some ⟨e,.cells cs⟩:=by
     have:∀(u:rL) (hp:Nat->Option kY),(u.all fun p=>p.1 !=i)=true->applyUps u hp i=hp i:=by
      intro u
      induction u with
      |nil=>intros;rfl
      |cons p u ih =>
       intro hp Br;obtain⟨j,c⟩:=p;simp only[List.all_cons,cBK,bne_iff_ne]at Br;rw[applyUps,ih _ Br.2,gB _ _ (fun e=>Br.1 e.symm)]
     rw[this u1 hp bWI];exact hb
    obtain⟨_,arr,hg,hc⟩:=h0.blk i _ hb0;have sQ:cs.length<=arr.size:=hc.1;have bRN:(a.eval z).cells.size=new.length:=by have:=Km.1;simpa using this.symm
    have Kn:∀v∈(a.eval z).cells.toList,v.oneCell'=true:=by
     intro v hv;obtain⟨k,hk⟩:=cCE hv;obtain⟨s,hs⟩:=bG (l:=new) (i:=k) (by rw[Km.1];exact aX hk);exact(Km.2 k s v hs hk).one
    have aGK:=run_storeCells_at P (ρ i) off e (a.eval z).cells.toList 0 arr w hg (by simp;omega) Kn;simp only[cCC]at aGK;have h1:=h0.setRow hb0 (.cells (setAt cs off new)) (arr.toList.take off ++ ((a.eval z).cells.toList ++ arr.toList.drop (off+(a.eval z).cells.toList.length))).toArray
     ⟨fun k ns e=>(by cases e),fun Ox e=>by cases e;exact⟨cs,rfl,by simp[setAt];omega⟩⟩ (by rw[lU hg];simp;omega) (Xm hc Km bNN)
    unfold kN;rw[lV];refine⟨ρ,undef,_,.inr ⟨gY _ _ hy ?_,rfl⟩,(h1.more id).pure hd (x:=.any) trivial (by simp[refs])⟩;unfold storeVar;rw[Sem.run_bind,ht.run_sizeOf,Result.andThen_ok,if_neg (by rw[bRN,Jy];simp),aGK];simp[cCZ]
   ·cases he
  ·rename_i i j jT;rw[jT]at hy;obtain⟨hy,kM⟩:=hy;split at he
   ·rename_i e k ns k' n hb bYH;split at he <;> cases he;rename_i hk;obtain⟨rfl,aBB⟩:=hk;have hj:=kM _ k ns hb rfl;rw[bYH]at hz;have hz:a.eval z=.int k n:=hz.1;obtain⟨_,arr,hg,hc⟩:=h.blk i _ hb;have bSH:j<arr.size:=cCB hj hc.1;have aGK:=run_storeCells_at P (ρ i) j e [.int k n] 0 arr w hg (by simp;omega) (by simp[Value.oneCell']);simp only[cCC]at aGK;have bMV:(arr.toList.take j ++ [Value.int k n] ++ arr.toList.drop (j+[Value.int k n].length)).toArray=arr.setIfInBounds j (.int k n):=by
     apply Array.ext';simp only[Array.toList_setIfInBounds,List.length_cons,List.length_nil];rw[List.set_eq_take_append_cons_drop,if_pos (by simpa using bSH)];simp
    rw[bMV]at aGK;have h1:=h.setRow hb (.ints k (ns.set j n)) (arr.setIfInBounds j (.int k n)) ⟨fun k1 aAY e=>(by cases e;exact⟨k,ns,rfl,by simp⟩),fun Ox e=>(by cases e)⟩ (by rw[lU hg];simp) (by
     refine⟨by simpa using hc.1,fun l m hl=>?_⟩;rw[List.getElem?_set]at hl;rw[Array.getElem?_setIfInBounds];split at hl
     ·rename_i aOR;subst aOR;rw[if_pos rfl,if_pos bSH];first | (cases hl;rfl) | (split at hl <;> cases hl;rfl)
     ·rename_i aOR;rw[if_neg aOR];exact hc.2 l m hl)
    refine⟨ρ,undef,_,.inr ⟨gY _ _ hy ?_,rfl⟩,(h1.more id).pure hd (x:=.any) trivial (by simp[refs])⟩;unfold storeVar;rw[Sem.run_bind,ht.run_sizeOf,Result.andThen_ok,hz,if_neg (by simp[Value.cells,aBB])];exact aGK
   ·cases he
  ·cases he
 ·cases he
theorem Gw{u:rL}(hu:Cons u)(hp:Nat->Option kY)(i:Nat):applyUps u hp i=if i∈u.map (·.1)then none else hp i:=by
 induction u generalizing hp with
 |nil=>rfl
 |cons p u ih =>
  obtain⟨j,c⟩:=p;have hc:c=none:=hu (j,c) (by simp);subst hc;rw[applyUps,ih (fun p hp=>hu p (by simp[hp]))]
  by_cases bDP:i=j
  ·subst bDP;rw[bW];simp
  ·rw[gB _ _ bDP];simp only[cBD,cCM,bDP,false_or]
theorem jO.Te{cs:List S}{vs:List Value}{u1 u2:rL}(h1:Cons u1)(h2:Cons u2)(hs:∀i,i∈u1.map (·.1)->i∈u2.map (·.1))(h:jO (XO X ρ (applyUps u1 hp)) w cs vs):jO (XO X ρ (applyUps u2 hp)) w cs vs:=by
 refine h.later ⟨cBE _,fun b _ hx=>⟨rfl,fun ho=>hx (ho.imp (fun h=>h) ?_)⟩⟩;rintro ⟨i,bl,hb,hr⟩;refine⟨i,bl,?_,hr⟩;rw[Gw h2]at hb;rw[Gw h1];split at hb
 ·cases hb
 ·rename_i hn;rw[if_neg (fun h=>hn (hs i h))];exact hb
theorem Zi(off:Nat):∀(vs:List Value) (k:Nat) (arr:Array Value),off+k+vs.length<=arr.size ->
  ((vs.zipIdx k).foldl (fun cs p=>cs.setIfInBounds (off+p.2) p.1) arr).toList=arr.toList.take (off+k) ++ vs ++ arr.toList.drop (off+k+vs.length)
 | [],k,arr,_=>by simp
 |v :: vs,k,arr,h=>by
  simp only[List.zipIdx_cons,List.foldl_cons];rw[Zi off vs (k+1) (arr.setIfInBounds (off+k) v) (by simp at h ⊢;omega)];simp only[Array.toList_setIfInBounds];have:=list_seg_step arr.toList (off+k) v vs (by simp at h ⊢;omega);simpa [Nat.add_assoc] using this
theorem nF{R:Type}(hp:Nat->Option kY)(place:Nat->Option (Nat×Nat))(ev:Operand->A)(parts:List (Nat×Operand))(cs:List S)(u:rL)(K:List S->rL->Option R) :
  fillK hp place ev parts cs u K=(fillK hp place ev parts cs u (fun cs u=>some (cs,u))).bind fun r=>K r.1 r.2:=by
 induction parts generalizing cs u with
 |nil=>rfl
 |cons p rest ih =>
  obtain⟨i,y⟩:=p;simp only[fillK];split
  ·split
   ·exact ih _ _
   ·rfl
  ·rfl
theorem zI(h:jY E X w0 ρ al fr hp a w)(place:Nat->Option (Nat×Nat)):∀(parts:List (Nat×Operand)) (cs:List S) (u:rL) (arr:Array Value) (Ox:List S) (u':rL),
  Cons u->jO (XO X ρ (applyUps u hp)) w cs arr.toList->fillK hp place (evA E fr) parts cs u (fun cs u=>some (cs,u))=some (Ox,u') ->
  Cons u'/\∃oW,Instr.fill place arr (parts.map fun p=>(p.1,a.eval p.2))=some oW/\jO (XO X ρ (applyUps u' hp)) w Ox oW.toList/\oW.size=arr.size
 | [],cs,u,arr,Ox,u',hu,hr,he=>by cases he;exact⟨hu,arr,rfl,hr,rfl⟩
 | (i,y) :: rest,cs,u,arr,Ox,u',hu,hr,he=>by
  simp only[fillK]at he;split at he
  ·rename_i off size new u1 So bYO;split at he
   ·rename_i Oe;obtain⟨aOJ,hn⟩:=xU h (h.ev y).1 bYO;have sQ:(a.eval y).cells.size=size:=by have:=hn.1;simp at this;omega
    have hle:off+(a.eval y).cells.size<=arr.size:=by have:=hr.1;simp at this;omega
    have bOF:Cons (u ++ u1):=fun p hp=>(List.mem_append.1 hp).elim (hu p) (aOJ p)
    have bWS:jO (XO X ρ (applyUps (u ++ u1) hp)) w cs arr.toList:=hr.Te hu bOF (fun i hi=>by simp only[cCF,cCH];exact .inl hi);have aIY:jO (XO X ρ (applyUps (u ++ u1) hp)) w new (a.eval y).cells.toList:=hn.Te aOJ bOF (fun i hi=>by simp only[cCF,cCH];exact .inr hi);have aXO:=aBQ bWS aIY Oe.2;have bHD:=Zi off (a.eval y).cells.toList 0 arr (by simpa using hle);obtain⟨aDS,aXZ⟩:∃aDS,aDS=(a.eval y).cells.zipIdx.foldl (fun cs p=>cs.setIfInBounds (off+p.2) p.1) arr:=⟨_,rfl⟩;have Jy:aDS.toList=arr.toList.take off ++ ((a.eval y).cells.toList ++ arr.toList.drop (off+(a.eval y).cells.toList.length)):=by
     rw[aXZ,<-Array.foldl_toList,Array.toList_zipIdx,bHD];simp[cCZ]
    rw[<-Jy]at aXO;have bMP:aDS.size=arr.size:=by
     have:aDS.toList.length=arr.toList.length:=by rw[Jy];simp;omega
     simpa using this
    obtain⟨bOE,oW,hf,Km,hs⟩:=zI h place rest (setAt cs off new) (u ++ u1) aDS Ox u' bOF aXO he;refine⟨bOE,oW,?_,Km,hs.trans bMP⟩;rw[cBD,Instr.fill,So];simp only;rw[if_neg (by simp;omega)];have e:(Array.foldl (fun cs (x:Value×Nat)=>match x with | (c,j)=>cs.setIfInBounds (off+j) c) arr (a.eval y).cells.zipIdx)=aDS:=aXZ.symm;rw[e];exact hf
   ·cases he
  ·cases he
theorem Bh{α β:Type}{f:α->Option β}:∀{l:List α} {r:List β},l.mapM f=some r->r.length=l.length
 | [],r,h=>by simp at h;subst h;rfl
 |x :: l,r,h=>by
  rw[cCN]at h;simp only[cDJ,cDK,cDL,Option.some.injEq]at h;obtain⟨y,_,ys,bVW,rfl⟩:=h;simp[Bh bVW]
theorem aJQ(h:jY E X w0 ρ al fr hp a w)(hd:jX E.nt o=true)(hT:pK P E.T){t:TypeId}{parts:Array (Nat×Operand)}(ho:o.op=.build t parts)(he:rU E id o (evA E fr) hp=some (x,u)):kN P E X w0 al fr hp a w o id x u:=by
 have fin:∀(oW:Array Value) cs u,(execOp a.eval o).run P w=.ok (.value (.agg oW)) w->Cons u->jO (XO X ρ (applyUps u hp)) w cs oW.toList->kN P E X w0 al fr hp a w o id (.v (.agg cs)) u:=by
  intro oW cs u gY hu Km;exact⟨ρ,.agg oW,w,.inl gY,((h.cons hu).more id).pure hd ⟨oW,rfl,Km⟩ (by simp[refs,refsV])⟩
 have hex:∀r,(Instr.build t (parts.map fun p=>(p.1,a.eval p.2))).run P w=.ok r w->(execOp a.eval o).run P w=.ok (.value r) w:=by
  intro r hr;unfold execOp;rw[ho];simp only[Sem.run_bind];rw[hr];rfl
 unfold rU effK at he;rw[ho]at he;simp only at he;split at he
 ·rename_i size bytes zero fs yS;have ht:=hT t _ yS;obtain⟨i,hi,_,_,z,hz,Qw⟩:=ht.i;obtain⟨d,xC,fields,rfl,bDS,hf⟩:=ht.d;rw[nF]at he;obtain⟨⟨cs,u2⟩,Ze,he⟩:=Option.bind_eq_some_iff.1 he;cases he;obtain⟨hu,oW,h1,h2,h3⟩:=zI h _ parts.toList _ [] z.cells cs u2 (fun p hp=>by cases hp) (by rw[Qw];exact Xd ht.zo) Ze;refine fin oW cs u2 (hex _ ?_) hu h2;obtain⟨xN,So,bWZ⟩:∃xN:List (Nat×Nat),fields.toList.mapM (fun f=>(P.info? f.type).map fun i=>(f.offset,i.size))=some xN/\∀(k:Nat) (p:Nat×Nat),xN[k]?=some p->(fs[k]?).map (fun(f:Nat×Nat×Bool)=>(f.1,f.2.1))=some p:=by
   have:∀(l:List Field) (s:Nat),(∀(k:Nat) (f:Field),l[k]?=some f->∃fi fd,P.info? f.type=some fi/\P.underlying f.type=some fd/\fs[s+k]?=some (f.offset,fi.size,uJ fd)) ->
     ∃xN:List (Nat×Nat),l.mapM (fun f=>(P.info? f.type).map fun i=>(f.offset,i.size))=some xN/\∀(k:Nat) (p:Nat×Nat),xN[k]?=some p->(fs[s+k]?).map (fun(f:Nat×Nat×Bool)=>(f.1,f.2.1))=some p:=by
    intro l
    induction l with
    |nil=>intro s _;exact⟨[],rfl,fun k p hk=>by simp at hk⟩
    |cons f l ih =>
     intro s hl;obtain⟨fi,fd,e1,e2,e3⟩:=hl 0 f rfl;obtain⟨pl,p1,p2⟩:=ih (s+1) (fun k g hk=>by have:=hl (k+1) g (by simpa using hk);rwa [show s+(k+1)=s+1+k by omega]at this);refine⟨(f.offset,fi.size) :: pl,by simp[cCN,e1,p1],fun k p hk=>?_⟩
     match k with
     |0=>simp at hk;subst hk;simp at e3;simp[e3]
     |k+1=>simp at hk;have:=p2 k p hk;rwa [show s+1+k=s+(k+1) by omega]at this
   obtain⟨pl,p1,p2⟩:=this fields.toList 0 (fun k f hk=>by rw[cBG];exact hf k f (by simpa using hk));exact⟨pl,p1,fun k p hk=>by have:=p2 k p hk;rwa [cBG]at this⟩
  refine run_build w t _ oW ?_;unfold Program.built;simp only[hi,xC,hz,So,Array.toList_map];have Sp:∀(ps:List (Nat×Value)) (arr:Array Value) r,Instr.fill (fun i=>(fs[i]?).map fun(f:Nat×Nat×Bool)=>(f.1,f.2.1)) arr ps=some r->Instr.fill (xN.toArray[·]?) arr ps=some r:=by
   intro ps
   induction ps with
   |nil=>intro arr r h;exact h
   |cons p ps ih =>
    intro arr r h;obtain⟨i,v⟩:=p;unfold Instr.fill at h ⊢;cases hq:xN[i]? with
    |none =>
     have h1:xN.length=fields.size:=by simpa using (Bh So)
     have h2:fs[i]?=none:=cDA (by have:=List.getElem?_eq_none_iff.1 hq;omega);simp[h2]at h
    |some q =>
     have:=bWZ i q hq;simp only[this]at h;have bWW:xN.toArray[i]?=some q:=by simp[hq]
     simp only[bWW];obtain⟨o1,s1⟩:=q;simp only at h ⊢;split at h
     ·cases h
     ·rename_i hc;rw[if_neg hc];exact ih _ _ h
  have e:parts.toList.map (fun p=>(p.1,a.eval p.2))=parts.toList.map (fun x=>(x.fst,a.eval x.snd)):=rfl;rw[e]at h1;exact Sp _ _ _ h1
 ·rename_i size bytes zero len rJ g yS;have ht:=hT t _ yS;obtain⟨i,hi,_,_,z,hz,Qw⟩:=ht.i;obtain⟨d,xC,e,ei,ed,rfl,aGQ,aUW,_,_⟩:=ht.d;rw[nF]at he;obtain⟨⟨cs,u2⟩,Ze,he⟩:=Option.bind_eq_some_iff.1 he;cases he;obtain⟨hu,oW,h1,h2,h3⟩:=zI h _ parts.toList _ [] z.cells cs u2 (fun p hp=>by cases hp) (by rw[Qw];exact Xd ht.zo) Ze;refine fin oW cs u2 (hex _ ?_) hu h2;refine run_build w t _ oW ?_;unfold Program.built;simp only[hi,xC,hz,aGQ,Array.toList_map];subst aUW;exact h1
 ·cases he
end
end AI
namespace AI
open Go Go.RowKit
section
variable {P:Program} {E:Env} {X:Nat->Prop} {w0:Old} {ρ:Nat->Nat} {al:Nat->Prop} {fr:Nat->A} {hp:Nat->Option kY} {a:Act} {w:World} {o:Oper} {id:Nat} {x:A} {u:rL}
theorem Kh(w:World)(t e:TypeId)(len:Nat)(parts:Array (Nat×Value))(cells:Array Value)(ie:TypeInfo)(z:Value)
  (hu:P.underlying t=some (.slice e)) (bSI:P.info? e=some ie) (hz:ie.zero=some z) (bAB:¬len*ie.size>2^24)
  (h:Instr.fill (fun i=>some (i*ie.size,ie.size)) ((Array.range (len*ie.size)).map (z.cells[·%z.cells.size]!)) parts.toList=some cells) :
  (Instr.buildSlice t len parts).run P w=.ok (.slice (some ⟨w.heap.size,0,none⟩) len len) (w.alloc (.cells cells e)):=by
 by_cases pE:len*ie.size=0
 ·rw[pE]at h;have hr:∀f:Nat->Value,(Array.range 0).map f=#[]:=fun f=>by rw[show Array.range 0=(#[]:Array Nat)from by simp];simp
  rw[hr]at h;simp[Instr.buildSlice,run_underlying hu,sizeOf,typeInfo,bSI,pE,hr,h,newRow]
 ·simp[Instr.buildSlice,run_underlying hu,sizeOf,typeInfo,zeroValue,bSI,hz,bAB,pE,h,newRow]
theorem Gy{k:IntKind}:∀{cs:List S} {ns:List Int},allInts k cs=some ns->cs=ns.map fun n=>.sc (.int k n)
 | [],ns,h=>by cases h;rfl
 | .sc (.int k' n) :: r,ns,h=>by
  simp only[allInts]at h;split at h
  ·rename_i hk;subst hk;obtain⟨ms,aUS,rfl⟩:=Option.map_eq_some_iff.1 h;rw[Gy aUS];rfl
  ·cases h
 | .ints _ _ :: _,_,h=>by cases h
 | .bot :: _,_,h=>by cases h
 | .sc (.bool _) :: _,_,h=>by cases h
 | .sc (.float _ _) :: _,_,h=>by cases h
 | .sc (.complex _ _ _) :: _,_,h=>by cases h
 | .sc (.string _) :: _,_,h=>by cases h
 | .sc (.pointer _) :: _,_,h=>by cases h
 | .sc (.slice _ _ _) :: _,_,h=>by cases h
 | .sc (.map _) :: _,_,h=>by cases h
 | .sc (.chan _) :: _,_,h=>by cases h
 | .sc (.func _ _ _) :: _,_,h=>by cases h
 | .sc .nilFunc :: _,_,h=>by cases h
 | .sc (.iface _ _) :: _,_,h=>by cases h
 | .sc .nilIface :: _,_,h=>by cases h
 | .sc (.agg _) :: _,_,h=>by cases h
 | .sc (.tuple _) :: _,_,h=>by cases h
theorem Qv{Y:Nat->Prop}{k:IntKind}{ns:List Int}{arr:Array Value}(h:jO Y w (ns.map fun n=>.sc (.int k n)) arr.toList):zX Y w (.ints k ns) arr/\arr.size=ns.length:=by
 have hl:ns.length=arr.size:=by have:=h.1;simpa using this
 refine⟨⟨by omega,fun i n hn=>?_⟩,hl.symm⟩;obtain⟨v,hv⟩:=bG (l:=arr.toList) (i:=i) (by have:=aX hn;simp;omega);have:=(h.2 i (.sc (.int k n)) v (by simp[hn]) hv).1;subst this;simpa using hv
theorem Nq{n:Nat}(h:n<=16777216):n<=maxLen:=by unfold maxLen;omega
theorem Ou(h:jY E X w0 ρ al fr hp a w)(hd:jX E.nt o=true)(hT:pK P E.T)(xH:∀j,j<8->¬al (id+j)){t:TypeId}{len:Nat}{parts:Array (Nat×Operand)}(ho:o.op=.buildSlice t len parts)(he:rU E id o (evA E fr) hp=some (x,u)):kN P E X w0 al fr hp a w o id x u:=by
 unfold rU effK at he;rw[ho]at he;simp only at he;split at he
 ·rename_i s0 b0 z0 e yS;have ht:=hT t _ yS;obtain⟨d,xC,Fm⟩:=ht.d;have Fm:d=.slice e:=Fm;subst Fm;split at he
  ·rename_i size bytes zero kind Qj;have Ny:=hT e _ Qj;obtain⟨ie,hi,sQ,_,z,hz,Qw⟩:=Ny.i;have sQ:ie.size=size:=sQ;have Qw:z.cells.toList=zero:=Qw;have bRF:zero.length=size:=Ny.zl;split at he
   ·rename_i Oe;obtain⟨aBB,Qk⟩:=Oe;rw[nF]at he;obtain⟨⟨cs,u2⟩,Ze,he⟩:=Option.bind_eq_some_iff.1 he;simp only at he;have bGX:jO (XO X ρ (applyUps [] hp)) w ((cCR (len*size)).map fun i=>S.sc (zero.getD (i%size) undef)) ((Array.range (len*ie.size)).map (z.cells[·%z.cells.size]!)).toList:=by
     refine⟨by simp[sQ],fun i s v hs hv=>?_⟩;have hi:=aX hs;simp at hi;have bDH:z.cells.size=size:=by rw[<-bRF,<-Qw];simp
     have hm:i%size<zero.length:=by rw[bRF];exact Nat.mod_lt _ Qk
     simp[hi]at hs;subst hs;have bAI:i%size<z.cells.size:=by rw[bDH];exact Nat.mod_lt _ Qk
     simp[sQ,hi,bDH]at hv;have e1:z.cells[i%size]! = zero[i%size]:=by
      rw[getElem!_pos z.cells (i%size) bAI];simp[<-Qw]
     rw[e1]at hv;subst hv;have e2:zero[i%size]?.getD undef=zero[i%size]:=by simp[hm]
     rw[e2];exact⟨rfl,Ny.zo _ (List.getElem_mem hm)⟩
    obtain⟨hu,oW,h1,h2,h3⟩:=zI h _ parts.toList _ [] _ cs u2 (fun p hp=>by cases hp) bGX Ze;have h3:oW.size=len*size:=by rw[h3];simp[sQ]
    have gY:=Kh (P:=P) w t e len (parts.map fun p=>(p.1,a.eval p.2)) oW ie z xC hi hz (by rw[sQ];omega) (by rw[Array.toList_map];subst sQ;exact h1);have hex:(execOp a.eval o).run P w=.ok (.value (.slice (some ⟨w.heap.size,0,none⟩) len len)) (w.alloc (.cells oW e)):=by
     unfold execOp;rw[ho];simp only[Sem.run_bind];rw[gY];rfl
    have h0:=h.cons hu;have fin:∀c,zX (XO X ρ (applyUps u2 hp)) w c oW->(∀k ns,c=.ints k ns->len=ns.length/\oW.size=len)->(∀Ox,c=.cells Ox->Ox.length=len*size) ->
      kN P E X w0 al fr hp a w o id (.v (.one (.buf id len))) (u2 ++ [(id,some ⟨e,c⟩)]):=by
     intro c hc hints kV;have h1:=h0.alloc (id:=id) (al':=pA al id) (xH 0 (by omega)) (fun _ h=>.inl h) (sJ id) e c oW hc;unfold kN;rw[lV];refine⟨_,_,_,.inl hex,h1.pure hd (x:=.v (.one (.buf id len))) ?_ ?_⟩
     ·refine⟨len,by rw[bW],cBE _,fun blk k ns hb hk=>?_,fun blk Ox hb hk=>?_⟩
      rotate_left
      ·rw[bW]at hb;cases hb;refine⟨size,kV Ox hk,?_,Nq ?_⟩
       ·rw[bW,lU (yH w _)];omega
       ·have:len<=len*size:=cDN _ Qk;omega
      rw[bW]at hb;cases hb;obtain⟨h5,h6⟩:=hints k ns hk;refine⟨h5,Nq ?_,?_⟩
      ·have:len<=len*size:=cDN _ Qk;omega
      ·rw[bW,lU (yH w _)];omega
     ·intro i hi;simp only[refs,refsV,refsL,cBW]at hi;subst hi;exact sJ i
    split at he
    ·split at he <;> cases he;rename_i k ns Br;have Vb:=Gy Br;rw[Vb]at h2;obtain⟨h5,h6⟩:=Qv h2;refine fin _ h5 (fun k1 aAY e1=>?_) (fun Ox e1=>by cases e1);cases e1;simp at h3;exact⟨by omega,h3⟩
    ·cases he;exact fin _ h2.cells (fun k ns e1=>by cases e1) (fun Ox e1=>by cases e1;have:=h2.1;simp at this;omega)
   ·cases he
  ·cases he
 ·cases he
theorem aJL{X:Nat->Prop}{w:World}(hT:pK P E.T){t:TypeId}{cs ds:List S}{q:Bool}(he:eqAgg (E.T t) cs ds=some q){xs ys:Array Value}(hx:jO X w cs xs.toList)(hy:jO X w ds ys.toList) :
  (∀y z,(do eqGuard .eql t y z (.agg xs) (.agg ys);binOp .eql t (.agg xs) (.agg ys):Sem Value).run P w=.ok (.bool q) w)/\(∀y z,(do eqGuard .neq t y z (.agg xs) (.agg ys);binOp .neq t (.agg xs) (.agg ys):Sem Value).run P w=.ok (.bool (!q)) w):=by
 unfold eqAgg at he;split at he
 ·rename_i ti yS;split at he
  ·rename_i ks bXL;have bTP:∀{cs:List S} {xs:Array Value},jO X w cs xs.toList->∀(j:Nat) (c:Value),cs[j]?=some (.sc c)->xs[j]?=some c:=by
    intro cs xs h j c hc;have kM:j<xs.toList.length:=by rw[<-h.1];exact(List.getElem?_eq_some_iff.1 hc).1
    have hv:xs.toList[j]?=some xs.toList[j]:=cBV kM;have:=(h.2 j _ _ hc hv).1;rw[this]at hv;simpa using hv
   exact bBO ((hT t ti yS).eq ks bXL) he (bTP hx) (bTP hy)
  ·cases he
 ·cases he
theorem aJR(h:jY E X w0 ρ al fr hp a w)(hd:jX E.nt o=true)(hT:pK P E.T){op:BinOp}{t t':TypeId}{y z:Operand}(ho:o.op=.binOp op t y z t')(he:rU E id o (evA E fr) hp=some (x,u)):kN P E X w0 al fr hp a w o id x u:=by
 have hy:=(h.ev y).1;have hz:=(h.ev z).1;unfold rU effK at he;rw[ho]at he;simp only at he;split at he
 ·rename_i p q Ao Ql;rw[Ao]at hy;rw[Ql]at hz;have e1:a.eval y=p:=hy.1;have e2:a.eval z=q:=hz.1;cases hb:boolT (E.T t) p with
  |false=>rw[hb]at he;cases he
  |true =>
   rw[hb]at he;simp only[cond_true]at he;rw[Jb]at he;obtain⟨r,hr,he⟩:=Option.bind_eq_some_iff.1 he;cases he;obtain⟨h1,h2⟩:=aJZ (P:=P) op t y z p q r w (fun b bXA=>by
    subst bXA;unfold boolT at hb;simp only at hb;split at hb
    ·rename_i s0 b0 z0 yS;obtain⟨d,bKC,bDV⟩:=(hT t _ yS).d;have bDV:d=.bool:=bDV;subst bDV;exact bKC
    ·cases hb) hr
   refine cS h hd (v:=r) ?_ ⟨rfl,h2⟩ (by simp[nP]);unfold execOp;rw[ho];simp only[e1,e2];rw[Sem.run_bind,h1];rfl
 ·rename_i cs ds Ao Ql;rw[Ao]at hy;rw[Ql]at hz;cases hb:eqAgg (E.T t) cs ds with
  |none=>rw[hb]at he;cases he
  |some b =>
   rw[hb]at he;simp only at he;obtain⟨xs,e1,rx⟩:∃arr,a.eval y=.agg arr/\_:=hy;obtain⟨ys,e2,ry⟩:∃arr,a.eval z=.agg arr/\_:=hz;have gY:=aJL (P:=P) hT hb rx ry;cases op <;> simp only at he <;> cases he
   ·refine cS h hd (v:=.bool b) ?_ ⟨rfl,rfl⟩ (by simp[nP]);unfold execOp;rw[ho];simp only[e1,e2];rw[Sem.run_bind,gY.1];rfl
   ·refine cS h hd (v:=.bool (!b)) ?_ ⟨rfl,rfl⟩ (by simp[nP]);unfold execOp;rw[ho];simp only[e1,e2];rw[Sem.run_bind,gY.2];rfl
 ·cases he
theorem aPX(h:jY E X w0 ρ al fr hp a w)(hd:jX E.nt o=true){op:UnOp}{t:TypeId}{y:Operand}(ho:o.op=.unOp op t y)(he:rU E id o (evA E fr) hp=some (x,u)):kN P E X w0 al fr hp a w o id x u:=by
 have hy:=(h.ev y).1;unfold rU effK at he;rw[ho]at he;simp only at he;split at he
 ·rename_i p Ao;rw[Ao]at hy;have e1:a.eval y=p:=hy.1;rw[Md]at he;obtain⟨r,hr,he⟩:=Option.bind_eq_some_iff.1 he;cases he;obtain⟨h1,h2⟩:=aLV (P:=P) op p r w hr;refine cS h hd (v:=r) ?_ ⟨rfl,h2⟩ (by simp[nP]);unfold execOp;rw[ho];simp only[e1,Sem.run_bind,h1,Result.andThen_ok,Sem.run_pure]
 ·cases he
theorem aDL{s d:TypeId}{ds dd:TypeDesc}{k:TK}(h1:P.underlying s=some ds)(h2:P.underlying d=some dd)(h3:Py P k dd){p r:Value}(h:convK k p some=some r) :
  (convert s d p).run P w=.ok r w/\r.oneCell'=true:=by
 unfold convert;simp only[Sem.run_bind,run_underlying h1,run_underlying h2,Result.andThen_ok];unfold convK at h;split at h
 ·have h3:dd=.int _:=h3;subst h3;cases h;exact⟨rfl,rfl⟩
 ·have h3:dd=.float _:=h3;subst h3;cases h;exact⟨rfl,rfl⟩
 ·have h3:dd=.int _:=h3;subst h3;obtain⟨n,hn,h⟩:=Option.bind_eq_some_iff.1 h;split at h <;> cases h;rename_i hb;refine⟨?_,rfl⟩;simp[Conv.floatToInt,hn,hb]
 ·have h3:dd=.float _:=h3;subst h3;split at h <;> cases h;rename_i hs;refine⟨?_,rfl⟩;simp[Conv.floatToFloat,hs]
 ·cases h
theorem Zr(h:jY E X w0 ρ al fr hp a w)(hd:jX E.nt o=true)(hT:pK P E.T){s d:TypeId}{y:Operand}(ho:o.op=.convert s d y)(he:rU E id o (evA E fr) hp=some (x,u)):kN P E X w0 al fr hp a w o id x u:=by
 have hy:=(h.ev y).1;unfold rU effK at he;rw[ho]at he;simp only at he;split at he
 ·rename_i t1 ti p hs xC Ao;rw[Ao]at hy;have e1:a.eval y=p:=hy.1;rw[Ez]at he;obtain⟨r,hr,he⟩:=Option.bind_eq_some_iff.1 he;cases he;obtain⟨ds,bDT,_⟩:=(hT s _ hs).d;obtain⟨dd,aXV,hk⟩:=(hT d _ xC).d;obtain⟨h1,h2⟩:=aDL (P:=P) (w:=w) bDT aXV hk hr;refine cS h hd (v:=r) ?_ ⟨rfl,h2⟩ (by simp[nP]);unfold execOp;rw[ho];simp only[e1,Sem.run_bind,h1,Result.andThen_ok,Sem.run_pure]
 ·cases he
theorem Zq(h:jY E X w0 ρ al fr hp a w)(hd:jX E.nt o=true){y:Operand}{i:Nat}(ho:o.op=.extract y i)(he:rU E id o (evA E fr) hp=some (x,u)):kN P E X w0 al fr hp a w o id x u:=by
 have hy:=h.ev y;unfold rU effK at he;rw[ho]at he;simp only at he;split at he
 ·rename_i xs bVY;split at he <;> cases he;rename_i v hv;rw[bVY]at hy;obtain⟨⟨arr,ha,hl,hr⟩,tH⟩:=hy;obtain⟨q,hq⟩:∃q,arr[i]?=some q:=by
   have:=aX hv;exact⟨arr[i],Array.getElem?_eq_getElem (by omega)⟩
  refine cS h hd (v:=q) ?_ (hr i v q hv hq) (fun j hj=>tH j (List.mem_flatMap.2 ⟨v,cBN hv,hj⟩));unfold execOp;rw[ho];simp[Instr.extract,ha,hq]
 ·cases he
theorem tQ{y:Operand}{k:IntKind}{n:Int}(h:jY E X w0 ρ al fr hp a w)(he:intArg (evA E fr y)=some (k,n)):a.eval y=.int k n:=by
 have hy:=(h.ev y).1;unfold intArg at he;split at he
 ·rename_i k' n' jT;cases he;rw[jT]at hy;exact hy.1
 ·cases he
theorem Rf(h:jY E X w0 ρ al fr hp a w)(hd:jX E.nt o=true)(hT:pK P E.T){t:TypeId}{y:Operand}{f:Nat}(ho:o.op=.fieldAddr t y f)(he:rU E id o (evA E fr) hp=some (x,u)):kN P E X w0 al fr hp a w o id x u:=by
 have hy:=h.ev y;unfold rU effK at he;rw[ho]at he;simp only at he;split at he
 ·rename_i s0 b0 z0 fs yS;obtain⟨d,xC,fields,rfl,bDS,hf⟩:=(hT t _ yS).d;have gY:∀b off o1 size g,fs[f]?=some (o1,size,g)->0<size->a.eval y=.pointer (some ⟨b,off,none⟩)->(execOp a.eval o).run P w=.ok (.value (.pointer (some ⟨b,off+o1,none⟩))) w:=by
   intro b off o1 size g aLF pE jT;have kM:=aX aLF;obtain⟨fi,fd,e1,e2,e3⟩:=hf f fields[f] (Array.getElem?_eq_getElem (by omega));rw[aLF]at e3;cases e3;unfold execOp;rw[ho];have bNU:fields[f]?=some fields[f]:=Array.getElem?_eq_getElem (by omega);simp only[jT,Instr.fieldAt,Instr.sureAddr,Sem.run_bind,run_underlying xC,Result.andThen_ok,bNU,Sem.run_pure,fieldPlace,sizeOf,typeInfo,run_program,e1];rw[aO];simp[mU]
  split at he
  ·rename_i off size g i o1 aLF jT;split at he <;> cases he;rename_i pE;rw[jT]at hy;exact cS h hd (gY _ _ _ _ _ aLF pE hy.1) rfl hy.2
  ·rename_i off size g cs aLF jT;split at he <;> cases he;rename_i pE;rw[jT]at hy;obtain⟨⟨b,aZN,hb,hc⟩,_⟩:=hy;refine cS h hd (gY _ _ _ _ _ aLF pE hb) ⟨b,aZN+off,rfl,fun i s hs=>?_⟩ (by simp[refs,refsV,refsL]);rw[cBR]at hs;have:=hc (off+i) s hs;rwa [show aZN+(off+i)=aZN+off+i by omega]at this
  ·cases he
 ·cases he
theorem Ng{t:TypeId}{fi:TypeInfo}{fd:TypeDesc}(h1:P.info? t=some fi)(h2:P.underlying t=some fd){Y:Nat->Prop}{cs:List S}{arr:Array Value}(hr:jO Y w cs arr.toList){off:Nat}{v:V}
  (he:(bif uJ fd then(if off+fi.size<=cs.length then some (V.agg ((cs.drop off).take fi.size))else none)else(cs[off]?).map fun c=>V.one (.s c))=some v) :
  ∃q,(part t arr off).run P w=.ok q w/\He ρ hp Y w v q/\refsV v=[]:=by
 have hl:cs.length=arr.size:=by simpa using hr.1
 have aDA:(isAgg t).run P w=.ok (uJ fd) w:=by
  unfold isAgg;rw[Sem.run_bind,run_underlying h2];cases fd <;> rfl
 unfold part;rw[Sem.run_bind,aDA,Result.andThen_ok];cases hg:uJ fd with
 |true =>
  rw[hg]at he;simp only[cond_true]at he;split at he <;> cases he;rename_i hle;refine⟨_,by rw[if_pos rfl,Sem.run_bind];simp only[sizeOf,typeInfo,Sem.run_bind,run_program,Result.andThen_ok,h1,Sem.run_pure];rfl,⟨_,rfl,?_⟩,rfl⟩;refine⟨by simp;omega,fun i s q hs hq=>?_⟩;have hi:i<fi.size:=by have:=aX hs;simp at this;omega
  rw[cBJ hi,cBR]at hs;refine hr.2 (off+i) s q hs ?_;have kM:=aX hs;simp at hq;rw[cBJ (by omega),cBR]at hq;exact hq
 |false =>
  rw[hg]at he;simp only[cond_false]at he;obtain⟨c,hc,rfl⟩:=Option.map_eq_some_iff.1 he;have kM:=aX hc;have hq:arr[off]?=some arr[off]:=Array.getElem?_eq_getElem (by omega);refine⟨arr[off],by simp[hq],hr.2 off c _ hc (by simp[<-hq]),rfl⟩
theorem aJP(h:jY E X w0 ρ al fr hp a w)(hd:jX E.nt o=true)(hT:pK P E.T){t:TypeId}{y:Operand}{f:Nat}(ho:o.op=.field t y f)(he:rU E id o (evA E fr) hp=some (x,u)):kN P E X w0 al fr hp a w o id x u:=by
 have hy:=(h.ev y).1;unfold rU effK at he;rw[ho]at he;simp only at he;split at he
 ·rename_i s0 b0 z0 fs yS;obtain⟨d,xC,fields,rfl,bDS,hf⟩:=(hT t _ yS).d;split at he
  ·rename_i off size g cs aLF jT;split at he <;> cases he;rename_i v hv;rw[jT]at hy;obtain⟨arr,ha,hr⟩:=hy;have kM:=aX aLF;obtain⟨fi,fd,e1,e2,e3⟩:=hf f fields[f] (Array.getElem?_eq_getElem (by omega));rw[aLF]at e3;cases e3;obtain⟨q,Ql,bJT,bNA⟩:=Ng (P:=P) (ρ:=ρ) (hp:=hp) e1 e2 hr hv;refine cS h hd (v:=q) ?_ bJT (by simp[refs,bNA]);have bNU:fields[f]?=some fields[f]:=Array.getElem?_eq_getElem (by omega);unfold execOp;rw[ho];simp only[Instr.field,Sem.run_bind,run_underlying xC,Result.andThen_ok,bNU,ha,asAgg,Sem.run_pure,Ql]
  ·cases he
 ·cases he
theorem aJO(h:jY E X w0 ρ al fr hp a w)(hd:jX E.nt o=true)(hT:pK P E.T){t:TypeId}{y z:Operand}(ho:o.op=.index t y z)(he:rU E id o (evA E fr) hp=some (x,u)):kN P E X w0 al fr hp a w o id x u:=by
 have hy:=(h.ev y).1;unfold rU effK at he;rw[ho]at he;simp only at he;split at he
 ·rename_i s0 b0 z0 len rJ g cs k n yS jT bGV;have hz:=tQ h bGV;split at he
  ·rename_i kM;rw[aUM cs kM]at he;split at he <;> cases he;rename_i v hv;rw[jT]at hy;obtain⟨arr,ha,hr⟩:=hy;obtain⟨d,xC,e,ei,ed,rfl,aGQ,aUW,bSL,bSK⟩:=(hT t _ yS).d;subst aUW;subst bSK;obtain⟨q,Ql,bJT,bNA⟩:=Ng (P:=P) (ρ:=ρ) (hp:=hp) aGQ bSL hr hv;refine cS h hd (v:=q) ?_ bJT (by simp[refs,bNA]);unfold execOp;rw[ho];simp only[Instr.index,Sem.run_bind,hz,asIntOf,Sem.run_pure,run_underlying xC,Result.andThen_ok,ha];rw[if_pos kM];simp only[sizeOf,typeInfo,Sem.run_bind,run_program,Result.andThen_ok,aGQ,Sem.run_pure,Ql]
  ·cases he
 ·rename_i s0 b0 z0 s k n yS jT bGV;have hz:=tQ h bGV;split at he
  ·rename_i kM;cases he;rw[jT]at hy;obtain⟨ha,_⟩:=hy;obtain⟨d,xC,rfl⟩:=(hT t _ yS).d;refine cS h hd (v:=.int .u8 (Jq s n)) ?_ ⟨rfl,rfl⟩ (by intro i hi;cases hi);unfold execOp;rw[ho];have bGQ:n.toNat<s.size:=by omega
   have hs:(if 0<=n then s[n.toNat]? else none)=some s[n.toNat]:=by
    rw[if_pos kM.1];exact getElem?_pos s n.toNat bGQ
   have aGK:Jq s n=(s[n.toNat].toNat:Int):=by
    unfold Jq;rw[getElem?_pos s n.toNat bGQ]
   simp only[Instr.index,Sem.run_bind,hz,asIntOf,Sem.run_pure,run_underlying xC,Result.andThen_ok,ha,hs,aGK]
  ·cases he
 ·cases he
end
end AI
namespace AI
open Go Go.RowKit
section
variable {P:Program} {E:Env} {X:Nat->Prop} {w0:Old} {ρ:Nat->Nat} {al:Nat->Prop} {fr:Nat->A} {hp:Nat->Option kY} {a:Act} {w:World} {o:Oper} {id:Nat} {x:A} {u:rL}
theorem Ax{R:Type}{n:Int}{K:Nat->Option R}{r:R}:∀{m j:Nat},splitN n m j K=some r->∃i,j<=i/\i<j+m/\n=(i:Int)/\K i=some r
 |0,_,h=>by cases h
 |m+1,j,h=>by
  unfold splitN at h
  by_cases hc:n=(j:Int)
  ·rw[decide_eq_true hc]at h;exact⟨j,cBE _,by omega,hc,h⟩
  ·rw[decide_eq_false hc]at h;obtain⟨i,h1,h2,h3,h4⟩:=Ax (m:=m) (j:=j+1) h;exact⟨i,by omega,by omega,h3,h4⟩
theorem aIQ{R:Type}{sh:Bool}{hp:Nat->Option kY}{t:TI}{rJ:Nat}{x:A}{n:Int}{K:A->Option R}{r:R}(h:idxS sh hp t rJ x n K=some r):idxK hp t rJ x n K=some r:=by
 unfold idxS at h;split at h
 ·split at h
  ·obtain⟨i,_,_,hn,h⟩:=Ax h;rw[hn];exact h
  ·exact h
 ·exact h
theorem wrap_small{n:Int}(h0:0<=n)(h1:n<=room):i64.wrap n=n:=by
 unfold room at h1;unfold IntKind.wrap;simp only[IntKind.bits,IntKind.signed];have e:n%(2^64:Int)=n:=by omega
 simp only[e];rw[if_neg (by simp;omega)]
theorem run_make(w:World)(t e:TypeId)(i:TypeInfo)(z:Value)(hu:P.underlying t=some (.slice e))(hi:P.info? e=some i)(hz:i.zero=some z)(kl kc:IntKind)(l c:Int)(h0:0<=l)(h1:l<=c)(h2:c<=room)(hb:i.bytes<=8) :
  (Instr.makeSlice t (.int kl l) (.int kc c)).run P w=.ok (.slice (some ⟨w.heap.size,0,none⟩) l.toNat c.toNat) (w.alloc (.cells ((Array.range (c.toNat*i.size)).map (z.cells[·%z.cells.size]!)) e)):=by
 have e1:i64.wrap l=l:=wrap_small h0 (by omega);have e2:i64.wrap c=c:=wrap_small (by omega) h2;have hbc:¬((i.bytes:Int)*c>2^48):=by
  have:(i.bytes:Int)*c<=8*c:=cDO (by omega) (by omega);unfold room at h2;omega
 have Qn:¬((i.bytes:Int)*l>2^48):=by
  have:(i.bytes:Int)*l<=8*l:=cDO (by omega) (by omega);unfold room at h2;omega
 unfold Instr.makeSlice;simp only[Sem.run_bind,run_underlying hu,Result.andThen_ok,asInt,asIntOf,Sem.run_pure,typeInfo,run_program,hi,e1,e2];rw[if_neg (by simp;omega)];have sQ:∀w:World,(sizeOf e).run P w=.ok i.size w:=fun w=>by simp[sizeOf,typeInfo,hi]
 have aOF:∀w:World,(zeroValue e).run P w=.ok z w:=fun w=>by simp[zeroValue,typeInfo,hi,hz]
 simp only[Sem.run_bind,run_askRoom,Result.andThen_ok,sQ]
 by_cases hc:c.toNat*i.size=0
 ·rw[if_pos hc];have e0:∀(f g:Nat->Value),Array.map f (Array.range 0)=Array.map g (Array.range 0):=fun f g=>by simp[Array.range]
  simp only[Sem.run_bind,Sem.run_pure,Result.andThen_ok,hc];rw[e0 _ (fun x=>z.cells[x%z.cells.size]!)];rfl
 ·rw[if_neg hc];simp only[Sem.run_bind,aOF,Sem.run_pure,Result.andThen_ok];rfl
theorem Rd (h : jY E X w0 ρ al fr hp a w) (hd : jX E.nt o = true) (hT : pK P E.T) (xH : ∀ j, j < 8 → ¬ al (id + j)) {t : TypeId} {y z : Operand} (ho : o.op = .makeSlice t y z) (he : rU E id o (evA E fr) hp = some (x, u)) : kN P E X w0 al fr hp a w o id x u := by
  unfold rU effK at he
  rw [ho] at he
  simp only at he
  split at he
  · rename_i s0 b0 z0 e k1 l k2 c yS bNJ bSE
    have hy := tQ h bNJ
    have hz := tQ h bSE
    have ht := hT t _ yS
    obtain ⟨d, xC, Fm⟩ := ht.d
    have Fm : d = .slice e := Fm
    subst Fm
    split at he
    · rename_i bytes k0 z0' k Qj
      have Ny := hT e _ Qj
      obtain ⟨i, hi, sQ, aXY, zv, aOF, Qw⟩ := Ny.i
      split at he
      · rename_i Of
        split at he <;> cases he
        rename_i Oe
        obtain ⟨h0, h1, h2⟩ := Oe
        have sQ : i.size = 1 := sQ
        have aXY : i.bytes = bytes := aXY
        have gY := run_make (P := P) w t e i zv xC hi aOF k1 k2 l c h0 h1 h2 (by omega)
        obtain ⟨_, _, rfl, rfl⟩ := Of
        have Qw : zv.cells.toList = [.int k0 0] := Qw
        have bDH : zv.cells.size = 1 := by have : zv.cells.toList.length = 1 := by rw [Qw]; rfl
                                           simpa using this
        have aOG : zv.cells[0]! = .int k0 0 := by
          rw [getElem!_pos zv.cells 0 (by omega)]
          have : zv.cells.toList[0]? = some (.int k0 0) := by rw [Qw]; rfl
          simpa [Array.getElem?_eq_getElem (show 0 < zv.cells.size by omega)] using this
        have h3 := h.alloc (id := id) (al' := pA al id) (xH 0 (by omega)) (fun _ h => .inl h) (sJ id) e (.ints k0 (cDH l.toNat 0)) ((Array.range (c.toNat * i.size)).map (zv.cells[· % zv.cells.size]!)) (by
          refine ⟨by simp [sQ]; omega, fun j n hn => ?_⟩
          have hj := aX hn
          simp at hj
          rw [List.getElem?_replicate, if_pos (by omega)] at hn
          cases hn
          have bXS : j < c.toNat := by omega
          simp only [bDH, Nat.mod_one, aOG, sQ, cBO]
          simp [bXS])
        refine ⟨_, .slice (some ⟨w.heap.size, 0, none⟩) l.toNat c.toNat, _, .inl ?_, h3.pure hd (x := .v (.one (.buf id l.toNat))) ?_ ?_⟩
        · unfold execOp
          rw [ho]
          simp only [hy, hz, Sem.run_bind, gY, Result.andThen_ok, Sem.run_pure]
        · refine ⟨c.toNat, by rw [bW], by omega, fun blk k' ns hb hk => ?_, fun blk cs hb hk => by rw [bW] at hb; cases hb; cases hk⟩
          rw [bW] at hb
          cases hb
          cases hk
          refine ⟨by simp, by unfold room at h2; unfold maxLen; omega, ?_⟩
          rw [bW, lU (yH w _)]
          simp [sQ]
        · intro i hi
          simp only [refs, refsV, refsL, cBW] at hi
          subst hi
          exact sJ i
      · cases he
    · cases he
  · cases he
theorem yK(h:jY E X w0 ρ al fr hp a w){d l:Int}{y:Option Operand}(he:bndA d (y.map (evA E fr))=some l):(y=none/\l=d)\/∃z k,y=some z/\a.eval z=.int k l:=by
 cases y with
 |none=>cases he;exact .inl ⟨rfl,rfl⟩
 |some z =>
  refine .inr ⟨z,?_⟩;have hz:=(h.ev z).1;simp only[cBS]at he;unfold bndA at he;split at he
  ·cases ‹some _=none›
  ·rename_i k n jT;cases he;have jT:evA E fr z=.v (.one (.s (.sc (.int k l)))):=Option.some.inj jT;rw[jT]at hz;exact⟨k,rfl,hz.1⟩
  ·cases he
theorem run_sliceBound(k:IntKind)(n:Int)(y:Nat)(c:BoundsCode)(h0:0<=n)(h1:n<=y):(Instr.sliceBound (.int k n) y c).run P w=.ok n.toNat w:=by
 unfold Instr.sliceBound;simp only[Sem.run_bind,asIntOf,Sem.run_pure,Result.andThen_ok];rw[if_pos ⟨h0,h1⟩];rfl
theorem aBV(len cap:Nat)(bDN:len<=cap)(lo hi mx:Option Operand)(h:jY E X w0 ρ al fr hp a w)
  {R:Type} {K:Nat->Nat->Option R} {r:R} (he:sliceK len (lo.map (evA E fr)) (hi.map (evA E fr)) (mx.map (evA E fr)) K=some r) :
  ∃l h' m,K l h'=some r/\l<=h'/\h'<=len/\h'<=m/\m<=cap/\(Instr.sliceBounds true len cap (lo.map a.eval) (hi.map a.eval) (mx.map a.eval)).run P w=.ok (l,h',m) w:=by
 unfold sliceK at he;split at he
 ·rename_i l h' hl hh hm;have bXE:mx=none:=by cases mx with
   |none=>rfl
   |some y=>cases hm
  subst bXE;split at he
  ·rename_i hc;obtain⟨c0,c1,c2⟩:=hc;refine⟨l.toNat,h'.toNat,cap,he,by omega,by omega,by omega,cBE _,?_⟩;unfold Instr.sliceBounds;rcases yK h hh with ⟨rfl,rfl⟩ |⟨yh,kh,rfl,bGT⟩
   ·rcases yK h hl with ⟨rfl,rfl⟩ |⟨yl,kl,rfl,aLC⟩
    ·rfl
    ·simp only[cDP,cBS,Sem.run_bind,Sem.run_pure,Result.andThen_ok,aLC,Option.isSome_none];rw[run_sliceBound kl l len _ c0 (by omega)];rfl
   ·simp only[cDP,cBS,Sem.run_bind,Sem.run_pure,Result.andThen_ok,bGT];rw[run_sliceBound kh h' cap _ (by omega) (by omega)];simp only[Result.andThen_ok];rcases yK h hl with ⟨rfl,rfl⟩ |⟨yl,kl,rfl,aLC⟩
    ·rfl
    ·simp only[cBS,aLC,Sem.run_bind];rw[run_sliceBound kl l h'.toNat _ c0 (by omega)];rfl
  ·cases he
 ·rename_i l h' mxa hl hh hm;split at he
  ·rename_i ya m bVX bSD;split at he
   ·rename_i hc;obtain⟨c0,c1,c2,c3⟩:=hc;obtain⟨ym,rfl,km,bNO⟩:∃ym,mx=some ym/\∃km,a.eval ym=.int km m:=by
     rw[<-hm]at bSD;rcases yK h bSD with ⟨rfl,_⟩ |⟨ym,km,rfl,bNO⟩
     ·cases hm
     ·exact⟨ym,rfl,km,bNO⟩
    obtain⟨yh,rfl,kh,bGT⟩:∃yh,hi=some yh/\∃kh,a.eval yh=.int kh h':=by
     rcases yK h hh with ⟨rfl,_⟩ |⟨yh,kh,rfl,bGT⟩
     ·cases bVX
     ·exact⟨yh,rfl,kh,bGT⟩
    refine⟨l.toNat,h'.toNat,m.toNat,he,by omega,by omega,by omega,by omega,?_⟩;unfold Instr.sliceBounds;simp only[cBS,Sem.run_bind,bNO];rw[run_sliceBound km m cap _ (by omega) (by omega)];simp only[Result.andThen_ok,bGT];rw[run_sliceBound kh h' m.toNat _ (by omega) (by omega)];simp only[Result.andThen_ok];rcases yK h hl with ⟨rfl,rfl⟩ |⟨yl,kl,rfl,aLC⟩
    ·rfl
    ·simp only[cBS,aLC,Sem.run_bind];rw[run_sliceBound kl l h'.toNat _ c0 (by omega)];rfl
   ·cases he
  ·cases he
 ·cases he
theorem nO{t e:TypeId}{size:Nat}(hu:P.underlying t=some (.slice e))(hs:(sizeOf e).run P w=.ok size w)(A0:Option Addr)(len cap:Nat)(bDN:len<=cap)(lo hi mx:Option Operand)(h:jY E X w0 ρ al fr hp a w)
  {R:Type} {K:Nat->Nat->Option R} {r:R} (he:sliceK len (lo.map (evA E fr)) (hi.map (evA E fr)) (mx.map (evA E fr)) K=some r) :
  ∃l h' m,K l h'=some r/\l<=h'/\h'<=len/\h'<=m/\m<=cap/\(Instr.sliceAt t (.slice A0 len cap) (lo.map a.eval) (hi.map a.eval) (mx.map a.eval)).run P w=.ok (.slice (if m=l then A0 else A0.map (·.add (l*size))) (h'-l) (m-l)) w:=by
 obtain⟨l,h',m,h1,h2,h3,h4,h5,gY⟩:=aBV (P:=P) len cap bDN lo hi mx h he;refine⟨l,h',m,h1,h2,h3,h4,h5,?_⟩;unfold Instr.sliceAt;rw[Sem.run_bind,run_underlying hu,Result.andThen_ok];simp only[Instr.slice,Sem.run_bind,run_underlying hu,Result.andThen_ok,gY,hs,Sem.run_pure]
theorem aJN(h:jY E X w0 ρ al fr hp a w)(hd:jX E.nt o=true)(hT:pK P E.T){t:TypeId}{y:Operand}{lo hi mx:Option Operand}(ho:o.op=.slice t y lo hi mx)(he:rU E id o (evA E fr) hp=some (x,u)):kN P E X w0 al fr hp a w o id x u:=by
 have hy:=h.ev y;unfold rU effK at he;rw[ho]at he;simp only at he;split at he
 ·rename_i s0 b0 z0 e yS;obtain⟨d,xC,Fm⟩:=(hT t _ yS).d;have Fm:d=.slice e:=Fm;subst Fm;split at he
  ·rename_i bytes zero k Qj;have sQ:=(hT e _ Qj).run_sizeOf (w:=w);have hex:∀v,(Instr.sliceAt t (a.eval y) (lo.map a.eval) (hi.map a.eval) (mx.map a.eval)).run P w=.ok v w->(execOp a.eval o).run P w=.ok (.value v) w:=by
    intro v hv;unfold execOp;rw[ho];simp only[Sem.run_bind,hv,Result.andThen_ok,Sem.run_pure]
   split at he
   ·rename_i k' ns jT;split at he
    ·rename_i hk;subst hk;rw[jT]at hy;obtain⟨⟨A0,c,hv,bDN,kV⟩,_⟩:=hy;obtain⟨l,h',m,hK,h1,h2,h3,h4,gY⟩:=nO (P:=P) xC sQ A0 ns.length c bDN lo hi mx h he;obtain⟨e1,e2⟩:=Prod.mk.inj (Option.some.inj hK);rw[<-e1,<-e2];rw[<-hv]at gY;have hlen:((ns.take h').drop l).length=h'-l:=by simp;omega
     refine cS h hd (hex _ gY) ⟨_,m-l,by rw[hlen],by rw[hlen];omega,fun i n hn=>?_⟩ (by simp[refs,refsV,refsL]);rw[cBR,List.getElem?_take]at hn;split at hn
     ·rename_i hli;obtain⟨b,off,hA,hb,hx,hc⟩:=kV (l+i) n hn;refine⟨b,off+l,?_,hb,hx,by rw[<-hc];congr 2;omega⟩;rw[aO,hA];simp[mU]
     ·cases hn
    ·cases he
   ·rename_i jT;rw[jT]at hy;have hv:a.eval y=.slice none 0 0:=hy.1.1;obtain⟨l,h',m,hK,h1,h2,h3,h4,gY⟩:=nO (P:=P) xC sQ none 0 0 (cBE _) lo hi mx h he;obtain⟨e1,e2⟩:=Prod.mk.inj (Option.some.inj hK);rw[<-e1,<-e2];rw[<-hv]at gY;have hlen:h'-l=([]:List Int).length:=by simp;omega
    exact cS h hd (hex _ gY) ⟨_,m-l,by rw[hlen],by simp,fun i n hn=>by simp at hn⟩ (by simp[refs,refsV,refsL])
   ·rename_i i n jT;rw[jT]at hy;obtain⟨⟨cap,hv,Dv,hc,_⟩,tH⟩:=hy;obtain⟨l,h',m,hK,h1,h2,h3,h4,gY⟩:=nO (P:=P) xC sQ _ n cap Dv lo hi mx h he;obtain⟨e1,e2⟩:=Prod.mk.inj (Option.some.inj hK);rw[<-e1,<-e2];rw[<-hv]at gY;refine cS h hd (hex _ gY) ⟨if m=l then 0 else l,m-l,?_,by omega,fun pE=>?_,fun h0=>?_,fun blk k' ns hb hk=>?_⟩ tH
    ·congr 1;split <;> simp_all [mU]
    ·rw[aO]
    ·split <;> omega
    ·have:=hc blk k' ns hb hk;exact⟨by omega,by omega,by omega⟩
   ·rename_i i off n jT;rw[jT]at hy;obtain⟨⟨o',cap,hv,Dv,hA,hA0,hc⟩,tH⟩:=hy;obtain⟨l,h',m,hK,h1,h2,h3,h4,gY⟩:=nO (P:=P) xC sQ _ n cap Dv lo hi mx h he;obtain⟨e1,e2⟩:=Prod.mk.inj (Option.some.inj hK);rw[<-e1,<-e2];rw[<-hv]at gY;refine cS h hd (hex _ gY) ⟨if m=l then o' else o'+l,m-l,?_,by omega,fun pE=>?_,fun h0=>?_,fun blk k' ns hb hk=>?_⟩ tH
    ·congr 1;split <;> simp_all [mU]
    ·rw[aO,hA (by omega)]
    ·have:=hA0 (by omega);split <;> omega
    ·have:=hc blk k' ns hb hk;exact⟨by omega,by omega,by omega⟩
   ·cases he
  ·rename_i te _ Qj;have sQ:=(hT e _ Qj).run_sizeOf (w:=w);split at he
   ·rename_i sz n f jT;split at he
    ·rename_i bMQ;subst bMQ;rw[jT]at hy;obtain⟨⟨A0,cap,hv,Dv,bAC⟩,_⟩:=hy;obtain⟨l,h',m,hK,h1,h2,h3,h4,gY⟩:=nO (P:=P) xC sQ A0 n cap Dv lo hi mx h he;obtain⟨e1,e2⟩:=Prod.mk.inj (Option.some.inj hK);rw[<-e1,<-e2];rw[<-hv]at gY;have hex:(execOp a.eval o).run P w=.ok (.value (.slice (if m=l then A0 else A0.map (·.add (l*te.size))) (h'-l) (m-l))) w:=by
      unfold execOp;rw[ho];simp only[Sem.run_bind,gY,Result.andThen_ok,Sem.run_pure]
     refine cS h hd hex ⟨_,m-l,rfl,by omega,fun i hi=>?_⟩ (by simp[refs,refsV,refsL]);obtain⟨r1,b,off,hA,r2⟩:=bAC (l+i) (by omega);refine⟨r1,b,off+l*te.size,?_,?_⟩
     ·rw[aO,hA];simp[mU]
     ·rw[show off+l*te.size+i*te.size=off+(l+i)*te.size by rw[cBY];omega];exact r2
    ·cases he
   ·cases he
  ·cases he
 ·cases he
theorem Gf{α:Type}{x y:α}{i:Nat}(h:[x][i]?=some y):i=0/\y=x:=by
 match i with
 |0=>simp at h;exact⟨rfl,h.symm⟩
 |i+1=>simp at h
theorem Re(h:jY E X w0 ρ al fr hp a w)(hd:jX E.nt o=true)(hT:pK P E.T){t:TypeId}{y z:Operand}(ho:o.op=.indexAddr t y z)(he:rU E id o (evA E fr) hp=some (x,u)):kN P E X w0 al fr hp a w o id x u:=by
 have hy:=h.ev y;unfold rU effK at he;rw[ho]at he;simp only at he;split at he
 ·rename_i ti k n yS bGV;have hz:=tQ h bGV;have ht:=hT t _ yS;obtain⟨d,xC,Fm⟩:=ht.d;split at he
  ·
   rename_i e Za;rw[Za]at Fm;have Fm:d=.slice e:=Fm;subst Fm;split at he
   ·rename_i te Qj;have sQ:=(hT e _ Qj).run_sizeOf (w:=w);have hex:∀b off len cap,a.eval y=.slice (some ⟨b,off,none⟩) len cap->0<=n/\n<(len:Int)->(execOp a.eval o).run P w=.ok (.value (.pointer (some ⟨b,off+n.toNat*te.size,none⟩))) w:=by
     intro b off len cap hv hn;unfold execOp;rw[ho];simp only[hv,hz,Instr.indexAt,Sem.run_bind,asIntOf,Sem.run_pure,Result.andThen_ok,run_underlying xC];rw[if_pos hn];simp only[Sem.run_bind,sQ,Result.andThen_ok,Sem.run_pure,mU]
    split at he
    ·cases he
    ·cases he
    ·rename_i xa aCQ aUR;have he:=aIQ he;unfold idxK at he;split at he
     ·rename_i k' ns jT;rw[jT]at hy;obtain⟨⟨A0,c,hv,bDN,kV⟩,_⟩:=hy;split at he
      ·rename_i bAT;split at he
       ·rename_i hn;obtain⟨e1,e2⟩:=Prod.mk.inj (Option.some.inj he);rw[<-e1,<-e2];have kM:n.toNat<ns.length:=by omega
        obtain⟨b,off,hA,hb,hx,hc⟩:=kV n.toNat ns[n.toNat] (cBV kM);subst hA;refine cS h hd (hex b off ns.length c hv hn) ⟨b,off+n.toNat*te.size,rfl,fun i s hs=>?_⟩ (by simp[refs,refsV,refsL]);obtain⟨rfl,rfl⟩:=Gf hs;refine⟨hb,hx,_,by rw[bAT,cBO,cCC];exact hc,?_,rfl⟩;simp[cCY,kM]
       ·cases he
      ·cases he
     ·rename_i i m jT;rw[jT]at hy;obtain⟨⟨cap,hv,Dv,hc,_⟩,tH⟩:=hy;split at he
      ·rename_i e' k' ns hb;split at he
       ·rename_i bAT;split at he
        ·rename_i hn;obtain⟨e1,e2⟩:=Prod.mk.inj (Option.some.inj he);rw[<-e1,<-e2];refine cS h hd (hex _ _ m cap hv hn) ⟨by rw[bAT,cBG,cBO],fun blk k1 aAY xQ Ko=>?_⟩ tH;have:=(hc blk k1 aAY xQ Ko).1;omega
        ·cases he
       ·cases he
      ·rename_i e' cs hb;split at he
       ·rename_i hn;obtain⟨e1,e2⟩:=Prod.mk.inj (Option.some.inj he);rw[<-e1,<-e2];refine cS h hd (hex _ _ m cap hv hn) ?_ tH;show _=_;rw[cBG]
       ·cases he
      ·cases he
     ·rename_i i off m jT;rw[jT]at hy;obtain⟨hy,tH⟩:=hy;obtain⟨A0,cap,hv,Dv,hA,hc⟩:=xY hy;split at he
      ·rename_i e' k' ns hb;split at he
       ·rename_i bAT;split at he
        ·rename_i hn;obtain⟨e1,e2⟩:=Prod.mk.inj (Option.some.inj he);rw[<-e1,<-e2];have hA:=hA (by omega);subst hA;refine cS h hd (hex _ _ m cap hv hn) ⟨by rw[bAT,cBO],fun blk k1 aAY xQ Ko=>?_⟩ tH;have:=hc blk k1 aAY xQ Ko;omega
        ·cases he
       ·cases he
      ·cases he
     ·rename_i sz m f jT;rw[jT]at hy;obtain⟨⟨A0,c,hv,bDN,kV⟩,_⟩:=hy;split at he
      ·rename_i bAT;split at he
       ·rename_i hn;obtain⟨e1,e2⟩:=Prod.mk.inj (Option.some.inj he);rw[<-e1,<-e2];obtain⟨bDS,b,off,hA,hc⟩:=kV n.toNat (by omega);subst hA;exact cS h hd (hex b off m c hv hn) ⟨b,off+n.toNat*te.size,rfl,by rw[<-bAT];exact hc⟩ (by simp[refs,refsV,refsL])
       ·cases he
      ·cases he
     ·exact absurd ‹_› (aCQ _ _)
     ·exact absurd ‹_› (aUR _ _)
     ·cases he
   ·cases he
  ·
   rename_i len rJ g Za;rw[Za]at Fm;obtain⟨e,ei,ed,rfl,aGQ,aUW,bSL,bSK⟩:=Fm;have sQ:(sizeOf e).run P w=.ok rJ w:=by simp[sizeOf,typeInfo,aGQ,aUW]
   have hex:∀b off,a.eval y=.pointer (some ⟨b,off,none⟩)->0<=n/\n<(len:Int)->(execOp a.eval o).run P w=.ok (.value (.pointer (some ⟨b,off+n.toNat*rJ,none⟩))) w:=by
    intro b off hv hn;unfold execOp;rw[ho];simp only[hv,hz,Instr.indexAt,Sem.run_bind,asIntOf,Sem.run_pure,Result.andThen_ok,run_underlying xC,Instr.sureAddr];rw[if_pos hn];simp only[Sem.run_bind,sQ,Result.andThen_ok,Sem.run_pure,mU]
   split at he
   ·rename_i i off jT;rw[jT]at hy;simp only[idxK,Za]at he;cases hb:cBH len 8 with
    |true =>
     rw[hb,cond_true]at he;obtain⟨j,_,hj,hn,he⟩:=Ax he;obtain⟨e1,e2⟩:=Prod.mk.inj (Option.some.inj he);rw[<-e1,<-e2];have hx:=hex _ _ hy.1 (by omega);rw[hn,Int.toNat_natCast]at hx;exact cS h hd hx rfl hy.2
    |false =>
    rw[hb,cond_false]at he;split at he
    ·rename_i hn;obtain⟨e1,e2⟩:=Prod.mk.inj (Option.some.inj he);rw[<-e1,<-e2];exact cS h hd (hex _ _ hy.1 hn) rfl hy.2
    ·cases he
   ·rename_i k' ns jT;rw[jT]at hy;obtain⟨⟨b,off,hv,hc⟩,_⟩:=hy;simp only[idxK,Za]at he;split at he
    ·rename_i hl;split at he
     ·rename_i hn;obtain⟨e1,e2⟩:=Prod.mk.inj (Option.some.inj he);rw[<-e1,<-e2];have kM:n.toNat<ns.length:=by omega
      refine cS h hd (hex _ _ hv hn) ⟨b,off+n.toNat*rJ,rfl,fun i s hs=>?_⟩ (by simp[refs,refsV,refsL]);obtain⟨rfl,rfl⟩:=Gf hs;have:=hc n.toNat (.sc (.int k' (ns.getD n.toNat 0))) (by simp[yE,cCY,kM]);rw[hl.2,cBO,cCC];exact this
     ·cases he
    ·cases he
   ·cases he
  ·cases he
 ·cases he
theorem foldMM_sound(op:BinOp)(bt:Value->Value->Sem Value)(bHM:∀k n m,∀w,(bt (.int k n) (.int k m)).run P w=.ok (.int k (match op with | .gtr=>if m>n then m else n |_=>if m<n then m else n)) w)(h:jY E X w0 ρ al fr hp a w)(k:IntKind):∀(ys:List Operand) (n r:Int),
  foldMM op k n (ys.map (evA E fr))=some r->((ys.map a.eval).foldlM bt (.int k n)).run P w=.ok (.int k r) w
 | [],n,r,he=>by cases he;rfl
 |y :: ys,n,r,he=>by
  simp only[cBD]at he ⊢;unfold foldMM at he;split at he
  ·cases ‹_ :: _=[]›
  ·rename_i n0 k' m rest jT;obtain⟨jT,Af⟩:=List.cons.inj jT;split at he
   ·rename_i hk;subst hk;have hy:=(h.ev y).1;rw[jT]at hy;have hy:a.eval y=.int k m:=hy.1;rw[<-Af]at he;have ih:=foldMM_sound op bt bHM h k ys _ r he;simp only[List.foldlM_cons,Sem.run_bind,hy,bHM,Result.andThen_ok];exact ih
   ·cases he
  ·cases he
theorem aCL(h:jY E X w0 ρ al fr hp a w){y:Operand}{n:Nat}(he:lenA (evA E fr y)=some n):∃A0 cap,a.eval y=.slice A0 n cap:=by
 have hy:=(h.ev y).1;unfold lenA at he;split at he
 ·rename_i k ns jT;cases he;rw[jT]at hy;obtain⟨A0,c,hv,_⟩:=hy;exact⟨A0,c,hv⟩
 ·rename_i jT;cases he;rw[jT]at hy;exact⟨none,0,hy.1⟩
 ·rename_i i n' jT;cases he;rw[jT]at hy;obtain⟨cap,hv,_⟩:=hy;exact⟨_,cap,hv⟩
 ·rename_i i off n' jT;cases he;rw[jT]at hy;obtain⟨A0,cap,hv,_⟩:=xY hy;exact⟨A0,cap,hv⟩
 ·rename_i sz n' f jT;cases he;rw[jT]at hy;obtain⟨A0,cap,hv,_⟩:=hy;exact⟨A0,cap,hv⟩
 ·cases he
theorem vR(h:jY E X w0 ρ al fr hp a w){k:IntKind}{y:Operand}{ns:List Int}(he:intsOf hp k (evA E fr y)=some ns) :
  ∃A0 cap,a.eval y=.slice A0 ns.length cap/\∀(i:Nat) (n:Int),ns[i]?=some n->∃ad,A0=some ad/\w.cell? (ad.add i)=some (.int k n):=by
 have hy:=(h.ev y).1;unfold intsOf at he;split at he
 ·rename_i k' oH jT;split at he <;> cases he;rename_i hk;subst hk;rw[jT]at hy;obtain⟨A0,c,hv,hle,hc⟩:=hy;refine⟨A0,c,hv,fun i n hn=>?_⟩;obtain⟨b,off,hA,_,_,aPB⟩:=hc i n hn;exact⟨_,hA,by rw[mU];exact aPB⟩
 ·rename_i jT;cases he;rw[jT]at hy;exact⟨none,0,hy.1,fun i n hn=>by simp at hn⟩
 ·rename_i i m jT;split at he
  ·rename_i e k' oH hb;split at he <;> cases he;rename_i hk;subst hk;rw[jT]at hy;obtain⟨cap,hv,hle,hc,_⟩:=hy;obtain⟨hm,_⟩:=hc _ k ns hb rfl;subst hm;refine⟨_,cap,hv,fun j n hn=>⟨_,rfl,?_⟩⟩;rw[mU,cBG];exact h.zM hb hn
  ·cases he
 ·rename_i i off m jT;split at he
  ·rename_i e k' oH hb;split at he <;> cases he;rename_i hk;subst hk;rw[jT]at hy;obtain⟨A0,cap,hv,hle,hA,hc⟩:=xY hy;have hl:=hc _ k oH hb rfl;have hlen:((oH.drop off).take m).length=m:=by simp;omega
   refine⟨A0,cap,by rw[hlen];exact hv,fun j n hn=>?_⟩;have hj:j<m:=by have:=aX hn;omega
   refine⟨_,hA (by omega),?_⟩;rw[mU];rw[cBJ hj,cBR]at hn;exact h.zM hb hn
  ·cases he
 ·cases he
theorem mA{b:Builtin}{args:Array Operand}{yQ:Array TypeId}(ho:o.op=.call ⟨.builtin b,args,yQ⟩){f:Array TypeId->TypeId->Array Value->Sem Value}(hf:∀consts vs,builtin b yQ o.type consts vs=(do pure (.value (<-f yQ o.type vs)):Sem Next)){v:Value}{w':World}(hr:(f yQ o.type (args.map a.eval)).run P w=.ok v w') :
  (execOp a.eval o).run P w=.ok (.value v) w':=by
 unfold execOp;rw[ho];simp only[resolve,Sem.run_bind,Sem.run_pure,Result.andThen_ok,invoke,hf,hr]
theorem aNX(k:IntKind)(n m:Int)(w:World):(Builtin.max2 (.int k n) (.int k m)).run P w=.ok (.int k (if m>n then m else n)) w:=(rfl:_=Result.ok (Value.int k (@ite Int (m>n) (Int.decLt n m) m n)) w).trans (by congr)
theorem aNW(k:IntKind)(n m:Int)(w:World):(Builtin.min2 (.int k n) (.int k m)).run P w=.ok (.int k (if m<n then m else n)) w:=(rfl:_=Result.ok (Value.int k (@ite Int (m<n) (Int.decLt m n) m n)) w).trans (by congr)
theorem aVQ(h:jY E X w0 ρ al fr hp a w)(hd:jX E.nt o=true)(hT:pK P E.T){args:Array Operand}{yQ:Array TypeId}(ho:o.op=.call ⟨.builtin .len,args,yQ⟩)(he:rU E id o (evA E fr) hp=some (x,u)):kN P E X w0 al fr hp a w o id x u:=by
 obtain⟨args⟩:=args;obtain⟨yQ⟩:=yQ;unfold rU effK at he;rw[ho]at he;simp only[builtinK]at he
 match args,yQ,he with
 | [y],[t],he =>
  simp only[cBD,cBX]at he;split at he
  ·rename_i s0 b0 z0 e n yS hlen;cases he;obtain⟨d,xC,Fm⟩:=(hT t _ yS).d;have Fm:d=.slice e:=Fm;subst Fm;obtain⟨A0,cap,hv⟩:=aCL h hlen;refine cS h hd (v:=.int .i64 n) (mA ho (f:=Builtin.len_) (fun _ _=>rfl) ?_) ⟨rfl,rfl⟩ (by simp[nP]);simp[Builtin.len_,run_underlying xC,hv,goInt]
  ·rename_i s0 b0 z0 n rJ g yS;cases he;obtain⟨d,xC,e,ei,ed,rfl,_⟩:=(hT t _ yS).d;refine cS h hd (v:=.int .i64 n) (mA ho (f:=Builtin.len_) (fun _ _=>rfl) ?_) ⟨rfl,rfl⟩ (by simp[nP]);simp[Builtin.len_,run_underlying xC,goInt]
  ·cases he
 | [],_,he=>simp at he
 |_ :: _ :: _,_,he=>simp at he
 | [_],[],he=>simp at he
 | [_],_ :: _ :: _,he=>simp at he
theorem Ot(h:jY E X w0 ρ al fr hp a w)(hd:jX E.nt o=true){b:Builtin}(hb:b=.max\/b=.min){args:Array Operand}{yQ:Array TypeId}(ho:o.op=.call ⟨.builtin b,args,yQ⟩)(he:rU E id o (evA E fr) hp=some (x,u)):kN P E X w0 al fr hp a w o id x u:=by
 obtain⟨args⟩:=args;unfold rU effK at he;rw[ho]at he;simp only at he
 match args,he with
 | [],he=>rcases hb with rfl |rfl <;> simp[builtinK]at he
 |y :: ys,he =>
  simp only[cBD]at he;have hy:=(h.ev y).1;rcases hb with rfl |rfl
  ·unfold builtinK at he;split at he <;> first | (cases he;done) | (simp_all;done) |skip
   rename_i b k n rest xQ jT;obtain⟨jT,Af⟩:=List.cons.inj jT;rw[jT]at hy;have hy:a.eval y=.int k n:=hy.1;split at he <;> cases he;rename_i m hm;rw[<-Af]at hm;have hr:=foldMM_sound (P:=P) .gtr Builtin.max2 (fun k n m w=>aNX k n m w) h k ys n m hm;refine cS h hd (v:=.int k m) (mA ho (f:=Builtin.max_) (fun _ _=>rfl) ?_) ⟨rfl,rfl⟩ (by simp[nP]);unfold Builtin.max_;simp only[cBZ,cBD,hy];exact hr
  ·unfold builtinK at he;split at he <;> first | (cases he;done) | (simp_all;done) |skip
   rename_i b k n rest xQ jT;obtain⟨jT,Af⟩:=List.cons.inj jT;rw[jT]at hy;have hy:a.eval y=.int k n:=hy.1;split at he <;> cases he;rename_i m hm;rw[<-Af]at hm;have hr:=foldMM_sound (P:=P) .lss Builtin.min2 (fun k n m w=>aNW k n m w) h k ys n m hm;refine cS h hd (v:=.int k m) (mA ho (f:=Builtin.min_) (fun _ _=>rfl) ?_) ⟨rfl,rfl⟩ (by simp[nP]);unfold Builtin.min_;simp only[cBZ,cBD,hy];exact hr
end
end AI
namespace AI
open Go Go.RowKit
section
variable {P:Program} {E:Env} {X:Nat->Prop} {w0:Old} {ρ:Nat->Nat} {al:Nat->Prop} {fr:Nat->A} {hp:Nat->Option kY} {a:Act} {w:World} {o:Oper} {id:Nat} {x:A} {u:rL}
def gT(k:IntKind)(ns:List Int):List Value:=ns.map fun n=>.int k n
theorem Jw(k:IntKind)(ns:List Int):∀v∈gT k ns,v.oneCell'=true:=by
 intro v hv;obtain⟨n,_,rfl⟩:=List.mem_map.1 hv;rfl
theorem yI{w w':World}{row:Option Nat}(hg:w.grownBy w' row){k:Nat}(hk:k<w.heap.size)(Bp:row≠some k):w'.heap[k]?=w.heap[k]?:=hg.block k hk (fun e=>Bp e.symm)
theorem jY.aAI(h:jY E X w0 ρ al fr hp a w){i:Nat}{e:TypeId}{c c2:rH}(hb:hp i=some ⟨e,c⟩)(Dw:E.n0<=i)(xH:¬al id){g:Nat}{oW:Array Value}{w':World}(hg:w.grownBy w' (some (ρ i)))
  (hw:w'.heap[g]?=some (.cells oW e (0,0))) (Ed:g=ρ i\/w.heap.size<=g) (hc:∀X',iT (XO X ρ hp) w X' w'->zX X' w' c2 oW) :
  jY E X w0 (Cy ρ id g) (pA al id) fr (applyUps [(i,none),(id,some ⟨e,c2⟩)] hp) a w':=by
 have hi:=h.alh i _ hb;have Bp:i≠id:=fun e=>xH (e▸hi)
 obtain⟨Oh,arr,aJB,_⟩:=h.blk i _ hb;have Zd:∀j,applyUps [(i,none),(id,some ⟨e,c2⟩)] hp j=if j=id then some ⟨e,c2⟩else if j=i then none else hp j:=by
  intro j;simp only[applyUps]
  by_cases h1:j=id
  ·subst h1;rw[bW,if_pos rfl]
  ·rw[gB _ _ h1,if_neg h1]
   by_cases h2:j=i
   ·subst h2;rw[bW,if_pos rfl]
   ·rw[gB _ _ h2,if_neg h2]
 have hold:∀j b,applyUps [(i,none),(id,some ⟨e,c2⟩)] hp j=some b->j≠id->j≠i/\hp j=some b:=by
  intro j b hj Bp;rw[Zd,if_neg Bp]at hj;split at hj
  ·cases hj
  ·exact⟨‹_›,hj⟩
 have aUP:∀j b,hp j=some b->j≠i->ρ j≠ρ i:=fun j b hj Bp e=>Bp (h.inj j i b _ hj hb e)
 have bOL:Kept w0 w w':=⟨hg.os,hg.tape,hg.output,hg.size,fun k hk=>yI hg (by have:=h.below.size;have:=Old.Yi hk;omega) (fun e=>by cases e;exact hk Oh.Kl),fun k hk=>yL (yI hg (by have:=h.below.size;have:=w0.bEZ k hk;omega) (fun e=>by cases e;have:=Oh.new Dw;have:=w0.bEZ _ hk;omega))⟩;have hl:iT (XO X ρ hp) w (XO X (Cy ρ id g) (applyUps [(i,none),(id,some ⟨e,c2⟩)] hp)) w':=by
  refine⟨hg.size,fun b bYR hx=>⟨yI hg bYR (fun e=>hx (.inr ⟨i,_,hb,by cases e;rfl⟩)),fun ho=>?_⟩⟩;rcases ho with ho |⟨j,bl,h1,h2⟩
  ·exact hx (.inl ho)
  ·by_cases hj:j=id
   ·subst hj;rw[bW]at h2;rcases Ed with Ed |Ed
    ·exact hx (.inr ⟨i,_,hb,by omega⟩)
    ·omega
   ·rw[gB _ _ hj]at h2;exact hx (.inr ⟨j,bl,(hold j bl h1 hj).2,h2⟩)
 refine h.change hl bOL ?_ ?_ ?_ (fun _ h=>.inl h) ?_
 ·intro j hj;have aCW:j≠id:=fun e=>xH (e▸hj)
  refine⟨gB _ _ aCW,fun b' tR=>?_⟩;obtain⟨h1,h2⟩:=hold j b' tR aCW;refine⟨b',h2,sameShape.refl _,?_⟩;unfold mM;rw[yI hg (h.kB h2) (fun e=>aUP j b' h2 h1 (Option.some.inj e).symm)]
 ·intro j b hj
  by_cases aCW:j=id
  ·subst aCW;rw[Zd,if_pos rfl]at hj;cases hj;rw[bW];exact⟨.inl (Ed.elim (fun e=>e▸Oh.new Dw) (fun e=>cCA h.below.size e)),oW,hw,hc _ hl⟩
  ·obtain⟨h1,h2⟩:=hold j b hj aCW;rw[gB _ _ aCW];exact⟨(h.blk j b h2).1,(h.blk j b h2).2.later hl (yI hg (h.kB h2) (fun e=>aUP j b h2 h1 (Option.some.inj e).symm))⟩
 ·intro j j' b b' h1 h2 e
  by_cases hj:j=id
  ·by_cases bAN:j'=id
   ·rw[hj,bAN]
   ·subst hj;obtain⟨h3,h4⟩:=hold j' b' h2 bAN;rw[bW,gB _ _ bAN]at e;rcases Ed with Ed |Ed
    ·exact absurd (e.symm.trans Ed) (aUP j' b' h4 h3)
    ·have:=h.kB h4;omega
  ·obtain⟨h5,h6⟩:=hold j b h1 hj
   by_cases bAN:j'=id
   ·subst bAN;rw[bW,gB _ _ hj]at e;rcases Ed with Ed |Ed
    ·exact absurd (e.trans Ed) (aUP j b h6 h5)
    ·have:=h.kB h6;omega
   ·obtain⟨h3,h4⟩:=hold j' b' h2 bAN;rw[gB _ _ hj,gB _ _ bAN]at e;exact h.inj j j' b b' h6 h4 e
 ·intro j b hj
  by_cases aCW:j=id
  ·subst aCW;exact sJ j
  ·exact .inl (h.alh j b (hold j b hj aCW).2)
theorem Rj{arr:Array Value}{k:IntKind}{ns:List Int}(h:arr.toList.take ns.length=gT k ns):∀(j:Nat) (n:Int),ns[j]?=some n->arr[j]?=some (Value.int k n):=by
 intro j n hn;have hj:=aX hn;have:(gT k ns)[j]?=some (.int k n):=by simp[gT,hn]
 rw[<-h,cBJ hj]at this;simpa using this
theorem Qs{arr:Array Value}{k:IntKind}{ns:List Int}(h:∀(j:Nat) (n:Int),ns[j]?=some n->arr[j]?=some (Value.int k n)):arr.toList.take ns.length=gT k ns:=by
 apply List.ext_getElem?;intro j
 by_cases hj:j<ns.length
 ·rw[cBJ hj];have:=h j ns[j] (cBV hj);simp only[gT,cBI,cBV hj,cBS];simpa using this
 ·rw[cDA (by simp;omega),cDA (by simp[gT];omega)]
theorem qL(z:Array Value)(n:Nat):(Builtin.zeroCells z n).size=n*z.size:=by simp[Builtin.zeroCells]
theorem Nw(k:IntKind)(ns ms:List Int):gT k ns ++ gT k ms=gT k (ns ++ ms):=by simp[gT]
theorem Aa{t e:TypeId}{ie:TypeInfo}{zv:Value}(ty:TypeId)(xC:P.underlying t=some (.slice e))(hi:P.info? e=some ie)(aOF:ie.zero=some zv)(aGJ:zv.cells.size=ie.size)
  {g cap n m:Nat} {arr:Array Value} {news:List Value} (aJB:w.heap[g]?=some (.cells arr e (0,0))) (Dv:n<=cap) (bOH:cap<=maxLen) (bSO:cap*ie.size<=arr.size)
  (ad:Addr) (c0:Nat) (hl:news.length=m*ie.size) (Yx:∀(j:Nat) u,news[j]?=some u->w.cell? (ad.add j)=some u) (Kn:∀v∈news,v.oneCell'=true) (yF:n+m<=maxLen) (Of:(n+m)*ie.bytes<=140737488355328) :
  ∃g' Rk oW w',(Builtin.append_ #[t,t] ty #[.slice (some ⟨g,0,none⟩) n cap,.slice (some ad) m c0]).run P w=.ok (.slice (some ⟨g',0,none⟩) (n+m) Rk) w' /\
   w.grownBy w' (some g)/\w'.heap[g']?=some (.cells oW e (0,0))/\(g'=g\/w.heap.size<=g')/\Rk*ie.size<=oW.size/\n+m<=Rk/\Rk<=maxLen/\oW.toList.take ((n+m)*ie.size)=arr.toList.take (n*ie.size) ++ news:=by
 have h1:n*ie.size<=cap*ie.size:=cCT _ Dv;have h2:(arr.toList.take (n*ie.size)).length=n*ie.size:=by simp;omega
 have h3:(arr.toList.take (n*ie.size) ++ news).length=(n+m)*ie.size:=by rw[cCI,h2,hl,cBY]
 by_cases hr:n+m<=cap
 ·have h4:(n+m)*ie.size<=cap*ie.size:=cCT _ hr;have h5:n*ie.size+news.length=(n+m)*ie.size:=by rw[hl,cBY]
  have gY:=run_append_room (P:=P) w t ty e ie xC hi g n cap arr aJB ad m c0 _ hl Yx Kn hr (by omega);refine⟨g,cap,_,_,gY,⟨rfl,rfl,rfl,by simp,fun k _ hk=>setRow_other w g k _ (fun e=>hk (by rw[e]))⟩,setRow_heap w g arr _ e _ aJB,.inl rfl,?_,hr,bOH,?_⟩
  ·simp only[cCU,cCI,List.length_drop,h2,h5,Array.length_toList];omega
  ·rw[<-h3];exact cCV
 ·have gY:=run_append_grow (P:=P) w t ty e ie zv xC hi aOF ⟨g,0,none⟩ n cap _ h2 (fun j v hj=>by
   have aJA:=aX hj;rw[cBJ (by omega)]at hj;rw[mU,cBG,cell_of_row w g j arr e (0,0) aJB];simpa using hj) ad m c0 _ hl Yx (by omega) (by unfold maxLen at yF;omega) (growslice_fits (by omega) Of)
  have Ed:=grownCap_ge w (n+m) cap e;have Vc:grownCap w (n+m) cap e<=maxLen:=grownCap_le_maxLen w _ _ e yF;refine⟨w.heap.size,_,_,_,gY,⟨rfl,rfl,rfl,by simp,fun k hk _=>yG w.drew _ hk⟩,heap_alloc_new w.drew _,.inr (cBE _),?_,Ed,Vc,?_⟩
  ·simp only[Array.size_append,cCU,qL,aGJ,h2,hl];rw[<-cBY,<-cBY];exact cCT _ (by omega)
  ·simp only[Array.toList_append];rw[<-h3];exact cCV
theorem jY.drew(h:jY E X w0 ρ al fr hp a w):jY E X w0 ρ al fr hp a w.drew :=
 h.change ⟨cBE _,fun _ _ hx=>⟨rfl,hx⟩⟩ ⟨rfl,rfl,rfl,cBE _,fun _ _=>rfl,fun _ _=>rfl⟩
  (fun _ _=>⟨rfl,fun b' tR=>⟨b',tR,sameShape.refl _,rfl⟩⟩) (fun id b hb=>⟨(h.blk id b hb).1,(h.blk id b hb).2.later ⟨cBE _,fun _ _ hx=>⟨rfl,hx⟩⟩ rfl⟩) h.inj (fun _ h=>h) h.alh
theorem zX.front{Y:Nat->Prop}{cs:List S}{arr:Array Value}(h:zX Y w (.cells cs) arr):jO Y w cs (arr.toList.take cs.length) :=
 ⟨by have:=h.1;simp;omega,fun i s u hs hu=>by
  obtain⟨u',Yv,hr⟩:=h.2 i s hs;rw[cBJ (aX hs)]at hu;have:u=u':=by simp at hu;rw[hu]at Yv;exact Option.some.inj Yv
  exact this▸hr⟩
theorem zX.Yj{Y:Nat->Prop}{cs:List S}{arr:Array Value}(h:jO Y w cs (arr.toList.take cs.length)):zX Y w (.cells cs) arr :=
 ⟨by have:=h.1;simp at this;omega,fun i s hs=>by
  have kM:=aX hs;obtain⟨u,hu⟩:=bG (l:=arr.toList.take cs.length) (i:=i) (by rw[<-h.1];exact kM);refine⟨u,?_,h.2 i s u hs hu⟩;rw[cBJ kM]at hu;simpa using hu⟩
theorem jO.append{Y:Nat->Prop}{cs ds:List S}{vs us:List Value}(h:jO Y w cs vs)(h':jO Y w ds us):jO Y w (cs ++ ds) (vs ++ us) :=
 ⟨by simp[h.1,h'.1],fun i s u hs hu=>by
  by_cases hi:i<cs.length
  ·rw[cCK hi]at hs;rw[cCK (by rw[<-h.1];exact hi)]at hu;exact h.2 i s u hs hu
  ·rw[cCL (by omega)]at hs;rw[cCL (by rw[<-h.1];omega),<-h.1]at hu;exact h'.2 _ s u hs hu⟩
theorem Vo(h:jY E X w0 ρ al fr hp a w)(hd:jX E.nt o=true)(xH:∀j,j<8->¬al (id+j)){t e:TypeId}{te:TI}(xC:P.underlying t=some (.slice e))(Qj:Cc P e te){y z:Operand}(ho:o.op=.call ⟨.builtin .append,#[y,z],#[t,t]⟩)
  (he:appCells E.n0 id e te (evA E fr y) (evA E fr z) hp (fun a u=>some (a,u))=some (x,u)):kN P E X w0 al fr hp a w o id x u:=by
 obtain⟨ie,hi,sQ,aXY,zv,aOF,Qw⟩:=Qj.i;have aGJ:zv.cells.size=ie.size:=by
  have h1:=Qj.zl;rw[<-Qw]at h1;rw[sQ,<-h1];simp
 have uL:∀n,∀i∈refs (.v (.one (.buf id n))),pA al id i:=by
  intro n i hi;simp only[refs,refsV,refsL,cBW]at hi;subst hi;exact sJ i
 have hy:=(h.ev y).1;have hz:=(h.ev z).1;unfold appCells at he;split at he
 ·rename_i j m bNV;rw[bNV]at hz;obtain⟨bIN,bMK,_,_,_⟩:=hz;split at he
  ·rename_i ej new bYT;obtain⟨_,Vz,bYB,bOJ⟩:=h.blk j _ bYT;split at he
   ·rename_i hm;obtain⟨Sq,bDM⟩:=hm;have bAR:=bOJ.front;have bNK:(Vz.toList.take new.length).length=m*ie.size:=by rw[<-bAR.1,bDM,sQ]
    have Yx:∀(k:Nat) v,(Vz.toList.take new.length)[k]?=some v->w.cell? ((⟨ρ j,0,none⟩:Addr).add k)=some v:=by
     intro k v hk;have bAM:=aX hk;rw[cBJ (by rw[<-bAR.1]at bAM;exact bAM)]at hk;rw[mU,cBG,cell_of_row w (ρ j) k Vz _ (0,0) bYB];simpa using hk
    have Kn:∀v∈Vz.toList.take new.length,v.oneCell'=true:=by
     intro v hv;obtain⟨k,hk⟩:=cCE hv;obtain⟨s,hs⟩:=bG (l:=new) (i:=k) (by rw[bAR.1];exact aX hk);exact(bAR.2 k s v hs hk).one
    split at he
    ·
     rename_i i n bAS;rw[bAS]at hy;obtain⟨cap,hv,Dv,_,aXX⟩:=hy;split at he
     ·rename_i e' cs bKE;split at he
      ·rename_i hk;obtain⟨rfl,Dw,hn,aJF,xQ,aCZ⟩:=hk;obtain⟨e1,e2⟩:=Prod.mk.inj (Option.some.inj he);rw[<-e1,<-e2];obtain⟨sz,h5,h6,h7⟩:=aXX _ cs bKE rfl;have bWM:sz=ie.size:=by rw[sQ];exact Nat.eq_of_mul_eq_mul_left hn (by rw[<-h5,aJF])
       subst bWM;obtain⟨_,arr,aJB,bYP⟩:=h.blk i _ bKE;rw[lU aJB]at h6;have bJZ:=bYP.front;obtain⟨g',Rk,oW,w',gY,hg,bHC,bAQ,rT,aIY,Vc,bJN⟩:=Aa (P:=P) o.type xC hi aOF aGJ aJB Dv h7 h6 ⟨ρ j,0,none⟩ bIN bNK Yx Kn (by unfold maxLen;omega) (by rw[aXY];omega);have hlen:(cs ++ new).length=(n+m)*ie.size:=by rw[cCI,aJF,bDM,sQ,cBY]
       have h1:=h.aAI (id:=id) (c2:=.cells (cs ++ new)) bKE Dw (xH 0 (by omega)) hg bHC bAQ (fun X' hl=>zX.Yj (by
        rw[hlen,bJN];refine jO.append (jO.later hl ?_) (jO.later hl bAR);rw[h5]at bJZ;exact bJZ))
       refine⟨_,.slice (some ⟨g',0,none⟩) (n+m) Rk,w',.inl (mA ho (f:=Builtin.append_) (fun _ _=>rfl) ?_),h1.pure hd (x:=.v (.one (.buf id (n+m)))) ?_ (uL _)⟩
       ·simp only[cBZ,cBD,cBX,hv,bMK];exact gY
       ·refine⟨Rk,by rw[bW],aIY,fun blk k1 aAY Dx Ko=>?_,fun blk cAQ Dx Ko=>?_⟩
        ·simp only[applyUps]at Dx;rw[bW]at Dx;cases Dx;cases Ko
        ·simp only[applyUps]at Dx;rw[bW]at Dx;cases Dx;cases Ko;exact⟨ie.size,hlen,by rw[bW,lU bHC];exact rT,Vc⟩
      ·cases he
     ·cases he
    ·
     rename_i bAS;rw[bAS]at hy;have hv:a.eval y=.slice none 0 0:=hy.1;split at he
     ·rename_i hk;obtain⟨xQ,aCZ⟩:=hk;obtain⟨e1,e2⟩:=Prod.mk.inj (Option.some.inj he);rw[<-e1,<-e2];have gY:=run_append_nil (P:=P) w t o.type e ie zv xC hi aOF ⟨ρ j,0,none⟩ m bIN _ bNK Yx Sq (by omega) (by rw[aXY];omega);have Ed:=grownCap_ge w m 0 e;have Vc:grownCap w m 0 e<=maxLen:=grownCap_le_maxLen w _ _ e (by unfold maxLen;omega);have bFX:((Vz.toList.take new.length).toArray ++ Builtin.zeroCells zv.cells (grownCap w m 0 e-m)).size=grownCap w m 0 e*ie.size:=by
       simp only[Array.size_append,cCU,qL,aGJ,bNK];rw[<-cBY];congr 1;omega
      have h1:=h.drew.alloc (id:=id) (al':=pA al id) (xH 0 (by omega)) (fun _ h=>.inl h) (sJ id) e (.cells new) ((Vz.toList.take new.length).toArray ++ Builtin.zeroCells zv.cells (grownCap w m 0 e-m)) (by
       refine zX.Yj ?_;have e3:((Vz.toList.take new.length).toArray ++ Builtin.zeroCells zv.cells (grownCap w m 0 e-m)).toList.take new.length=Vz.toList.take new.length:=by
        have hq:=bAR.1;generalize Vz.toList.take new.length=L at hq ⊢;rw[Array.toList_append,hq];exact cCV
       rw[e3];exact jO.later ⟨cBE _,fun _ _ hx=>⟨rfl,hx⟩⟩ bAR)
      refine⟨_,.slice (some ⟨w.heap.size,0,none⟩) m (grownCap w m 0 e),_,.inl (mA ho (f:=Builtin.append_) (fun _ _=>rfl) ?_),h1.pure hd (x:=.v (.one (.buf id m))) ?_ (uL _)⟩
      ·simp only[cBZ,cBD,cBX,hv,bMK];exact gY
      ·refine⟨_,by rw[bW];rfl,Ed,fun blk k1 aAY Dx Ko=>?_,fun blk cAQ Dx Ko=>?_⟩
       ·rw[bW]at Dx;cases Dx;cases Ko
       ·rw[bW]at Dx;cases Dx;cases Ko;refine⟨ie.size,by rw[bDM,sQ],?_,Vc⟩;rw[bW,lU (yH w.drew _),bFX];exact cBE _
     ·cases he
    ·cases he
   ·cases he
  ·cases he
 ·cases he
theorem aDH(h:jY E X w0 ρ al fr hp a w)(hd:jX E.nt o=true)(hT:pK P E.T)(xH:∀j,j<8->¬al (id+j)){args:Array Operand}{yQ:Array TypeId}(ho:o.op=.call ⟨.builtin .append,args,yQ⟩)(he:rU E id o (evA E fr) hp=some (x,u)):kN P E X w0 al fr hp a w o id x u:=by
 obtain⟨args⟩:=args;obtain⟨yQ⟩:=yQ;unfold rU effK at he;rw[ho]at he;simp only[builtinK]at he
 match args,yQ,he with
 | [y,z],[t,t'],he =>
  simp only[cBD,cBX]at he;split at he
  ·rename_i bWL;subst bWL;split at he
   ·rename_i s0 b0 z0 e yS;obtain⟨d,xC,Fm⟩:=(hT t _ yS).d;have Fm:d=.slice e:=Fm;subst Fm;split at he
    ·rename_i bytes zero k Qj;have Ny:=hT e _ Qj;obtain⟨ie,hi,sQ,aXY,zv,aOF,Qw⟩:=Ny.i;have sQ:ie.size=1:=sQ;have aXY:ie.bytes=bytes:=aXY;have aGJ:zv.cells.size=1:=by
      have h1:zero.length=1:=Ny.zl;have h2:zv.cells.toList=zero:=Qw;rw[<-h2]at h1;simpa using h1
     have uL:∀i∈refs (.v (.one (.buf id 0))),pA al id i:=by
      intro i hi;simp only[refs,refsV,refsL,cBW]at hi;subst hi;exact sJ i
     split at he
     ·rename_i hb8;have hy:=(h.ev y).1;split at he
      ·
       rename_i i n ms jT aUS;rw[jT]at hy;obtain⟨cap,hv,Dv,hc,_⟩:=hy;split at he
       ·rename_i e' k' ns hb;cases Ip:cBQ i E.n0 with
        |true=>rw[Ip]at he;cases he
        |false =>
        rw[Ip]at he;simp only[cond_false]at he;have Ip:E.n0<=i:=by
         have:¬i<E.n0:=fun h=>by
          have h2:cBQ i E.n0=true:=by rw[Nat.blt_eq];exact h
          rw[h2]at Ip;cases Ip
         omega
        split at he
        ·rename_i bYK;obtain⟨rfl,rfl⟩:=bYK;split at he
         ·rename_i yF;obtain⟨pE,yF⟩:=yF;obtain⟨e1,e2⟩:=Prod.mk.inj (Option.some.inj he);rw[<-e1,<-e2];obtain⟨hn,bOH,bSO⟩:=hc _ k ns hb rfl;subst hn;obtain⟨Oh,arr,aJB,aJF,bKD⟩:=h.blk i _ hb;rw[lU aJB]at bSO;obtain⟨A0,c0,aCN,kV⟩:=vR h aUS;obtain⟨ad,hA,_⟩:=kV 0 ms[0] (cBV pE);subst hA;obtain⟨g',Rk,oW,w',gY,hg,bHC,bAQ,rT,aIY,Vc,bJN⟩:=Aa (P:=P) (m:=ms.length) (news:=gT k ms) o.type xC hi aOF (by omega) aJB Dv bOH (by rw[sQ];omega) ad c0 (by simp[gT,sQ]) (fun j v hj=>by
           simp only[gT,cBI,cCG]at hj;obtain⟨m,hm,rfl⟩:=hj;obtain⟨bTQ,e1,e2⟩:=kV j m hm;cases e1;exact e2) (Jw k ms) (by unfold maxLen;unfold room at yF;omega) (by
           have:(ns.length+ms.length)*ie.bytes<=(ns.length+ms.length)*8:=cDS _ (by omega);unfold room at yF;omega)
          rw[sQ,cBO]at rT;rw[sQ,cBO,cBO,Qs bKD,Nw,<-cCI]at bJN;have h1:=h.aAI (id:=id) (c2:=.ints k (ns ++ ms)) hb Ip (xH 0 (by omega)) hg bHC bAQ (fun _ _=>⟨by simp;omega,Rj bJN⟩);refine⟨_,.slice (some ⟨g',0,none⟩) (ns.length+ms.length) Rk,w',.inl (mA ho (f:=Builtin.append_) (fun _ _=>rfl) ?_),h1.pure hd (x:=.v (.one (.buf id (ns.length+ms.length)))) ?_ uL⟩
          ·simp only[cBZ,cBD,cBX,hv,aCN];exact gY
          ·refine⟨Rk,by rw[bW],aIY,fun blk k1 aAY xQ Ko=>?_,fun blk cs xQ Ko=>by simp only[applyUps]at xQ;rw[bW]at xQ;cases xQ;cases Ko⟩;simp only[applyUps]at xQ;rw[bW]at xQ;cases xQ;cases Ko;refine⟨by simp,Vc,?_⟩;rw[bW,lU bHC];exact rT
         ·cases he
        ·cases he
       ·cases he
      ·
       rename_i ms jT aUS;rw[jT]at hy;have hv:a.eval y=.slice none 0 0:=hy.1;split at he
       ·rename_i yF;obtain⟨pE,yF⟩:=yF;obtain⟨e1,e2⟩:=Prod.mk.inj (Option.some.inj he);rw[<-e1,<-e2];obtain⟨A0,c0,aCN,kV⟩:=vR h aUS;obtain⟨ad,hA,_⟩:=kV 0 ms[0] (cBV pE);subst hA;have hl:(gT k ms).length=ms.length*ie.size:=by simp[gT,sQ]
        have Of:ms.length*ie.bytes<=281474976710656:=by
         have:ms.length*ie.bytes<=ms.length*8:=cDS _ (by omega);unfold room at yF;omega
        have gY:=run_append_nil (P:=P) w t o.type e ie zv xC hi aOF ad ms.length c0 (gT k ms) hl (fun j v hj=>by
         simp only[gT,cBI,cCG]at hj;obtain⟨m,hm,rfl⟩:=hj;obtain⟨bTQ,e1,e2⟩:=kV j m hm;cases e1;exact e2) pE (by unfold room at yF;omega) Of
        have Ed:=grownCap_ge w ms.length 0 e;have Vc:grownCap w ms.length 0 e<=maxLen:=grownCap_le_maxLen w _ _ e (by unfold maxLen;unfold room at yF;omega);have h1:=h.drew.alloc (id:=id) (al':=pA al id) (xH 0 (by omega)) (fun _ h=>.inl h) (sJ id) e (.ints k ms) ((gT k ms).toArray ++ Builtin.zeroCells zv.cells (grownCap w ms.length 0 e-ms.length)) (by
         refine⟨by simp[gT,qL,aGJ,cBO],fun j n hn=>?_⟩;have hj:=aX hn;rw[Array.getElem?_append_left (by simp[gT];omega)];simp[gT,hn])
        refine⟨_,.slice (some ⟨w.heap.size,0,none⟩) ms.length (grownCap w ms.length 0 e),_,.inl (mA ho (f:=Builtin.append_) (fun _ _=>rfl) ?_),h1.pure hd (x:=.v (.one (.buf id ms.length))) ?_ uL⟩
        ·simp only[cBZ,cBD,cBX,hv,aCN];exact gY
        ·refine⟨_,by rw[bW];rfl,Ed,fun blk k1 aAY xQ Ko=>?_,fun blk cs xQ Ko=>by rw[bW]at xQ;cases xQ;cases Ko⟩;rw[bW]at xQ;cases xQ;cases Ko;refine⟨rfl,Vc,?_⟩;rw[bW,lU (yH w.drew _)];simp only[Array.size_append,cCU,qL,aGJ,cBO];simp[gT];omega
       ·cases he
      ·cases he
     ·cases he
    ·rename_i te _ Qj;exact Vo h hd xH xC (hT e _ Qj) ho he
    ·cases he
   ·cases he
  ·cases he
 | [],_,he=>simp at he
 | [_],_,he=>simp at he
 |_ :: _ :: _ :: _,_,he=>simp at he
 | [_,_],[],he=>simp at he
 | [_,_],[_],he=>simp at he
 | [_,_],_ :: _ :: _ :: _,he=>simp at he
theorem Xh{α:Type}(f:Nat->α)(i:Nat)(b:α)(h:f i=b):Cy f i b=f:=by
 funext j
 by_cases hj:j=i
 ·subst hj;rw[bW,h]
 ·rw[gB _ _ hj]
theorem Td(h:jY E X w0 ρ al fr hp a w){t t' e:TypeId}{bytes:Nat}{zero:List Value}{k:IntKind}(ty:TypeId)(xC:P.underlying t=some (.slice e))(Qj:Cc P e ⟨1,bytes,zero,.int k⟩)
  {i off n dcap:Nat} {e':TypeId} {ns ms:List Int} (hb:hp i=some ⟨e',.ints k ns⟩) (hle:off+n<=ns.length) (Ad:Option Addr) (hA:0<n->Ad=some ⟨ρ i,off,none⟩)
  (As:Option Addr) (sc:Nat) (kV:∀(j:Nat) (m:Int),ms[j]?=some m->∃ad,As=some ad/\w.cell? (ad.add j)=some (.int k m)) :
  ∃w',(Builtin.copy_ #[t,t'] ty #[.slice Ad n dcap,.slice As ms.length sc]).run P w=.ok (.int .i64 (min ms.length n:Nat)) w' /\
   jY E X w0 ρ al fr (Cy hp i (some ⟨e',.ints k (ns.take off ++ (ms.take n ++ ns.drop (off+min ms.length n)))⟩)) a w':=by
 obtain⟨ie,hi,sQ,_⟩:=Qj.i;have sQ:ie.size=1:=sQ;have aBB:(P.info? e).map (·.size)=some 1:=by simp[hi,sQ]
 obtain⟨_,arr,aJB,aJF,bKD⟩:=h.blk i _ hb
 by_cases h0:min ms.length n=0
 ·refine⟨w,?_,?_⟩
  ·have:=run_copy_none (P:=P) w t t' ty e Ad As n dcap ms.length sc xC aBB h0;rw[this,h0];rfl
  ·have hc:ns.take off ++ (ms.take n ++ ns.drop (off+min ms.length n))=ns:=by
    have:ms.take n=[]:=by
     apply cDT;rw[cDU];omega
    rw[this,h0];simp
   rw[hc,Xh _ _ _ hb];exact h
 ·have hn:0<n:=by omega
  have hm:0<ms.length:=by omega
  have hA:=hA hn;subst hA;obtain⟨ad,rfl,_⟩:=kV 0 ms[0] (cBV hm);have hlen:(gT k (ms.take n)).length=min ms.length n:=by rw[gT,cCS,cDU];omega
  have gY:=run_copy_row (P:=P) w t t' ty e (ρ i) off n dcap ad ms.length sc arr e' (gT k (ms.take n)) xC aBB aJB hlen (fun j v hj=>by
   simp only[gT,cBI,cCG]at hj;obtain⟨m,hm,rfl⟩:=hj;have aCW:j<n:=by have:=aX hm;simp at this;omega
   rw[cBJ aCW]at hm;obtain⟨bTQ,e1,e2⟩:=kV j m hm;cases e1;exact e2) (by rw[hlen];have:ns.length<=arr.size:=aJF;omega) (Jw k _)
  rw[hlen]at gY;refine⟨_,gY,?_⟩;have aJF:ns.length<=arr.size:=aJF;refine h.setRow hb _ _ ⟨fun k1 aAY e1=>?_,fun Ox e1=>by cases e1⟩ ?_ ?_
  ·cases e1;exact⟨k,ns,rfl,by simp;omega⟩
  ·rw[lU aJB];simp[hlen];omega
  ·refine⟨by simp[hlen];omega,fun j m hj=>?_⟩;have kM:(ms.take n).length=min ms.length n:=by simp;omega
   rw[<-kM,List.rZ ns (ms.take n) off j (by rw[kM];omega)]at hj;have e1:(arr.toList.take off ++ gT k (ms.take n) ++ arr.toList.drop (off+min ms.length n)).toArray[j]?=(arr.toList.take off ++ (gT k (ms.take n) ++ arr.toList.drop (off+(gT k (ms.take n)).length)))[j]?:=by
    rw[hlen];simp[cCZ]
   rw[e1,List.rZ _ _ _ _ (by rw[hlen];simp;omega),hlen];rw[kM]at hj
   by_cases Zc:off<=j/\j<off+min ms.length n
   ·rw[if_pos Zc]at hj ⊢;simp only[gT,cBI,hj,cBS]
   ·rw[if_neg Zc]at hj ⊢;simpa using bKD j m hj
theorem aQA(h:jY E X w0 ρ al fr hp a w)(hd:jX E.nt o=true)(hT:pK P E.T){args:Array Operand}{yQ:Array TypeId}(ho:o.op=.call ⟨.builtin .copy,args,yQ⟩)(he:rU E id o (evA E fr) hp=some (x,u)):kN P E X w0 al fr hp a w o id x u:=by
 obtain⟨args⟩:=args;obtain⟨yQ⟩:=yQ;unfold rU effK at he;rw[ho]at he;simp only[builtinK]at he
 match args,yQ,he with
 | [y,z],[t,t'],he =>
  simp only[cBD,cBX]at he;split at he
  ·rename_i s0 b0 z0 e yS;obtain⟨d,xC,Fm⟩:=(hT t _ yS).d;have Fm:d=.slice e:=Fm;subst Fm;split at he
   ·rename_i bytes zero k Qj;have Ny:=hT e _ Qj;have hy:=(h.ev y).1;have fin:∀{i:Nat} {e':TypeId} {k':IntKind} {ns cs:List Int} {n:Nat},(∃w',(Builtin.copy_ #[t,t'] o.type (#[y,z].map a.eval)).run P w=.ok (.int .i64 n) w'/\jY E X w0 ρ al fr (Cy hp i (some ⟨e',.ints k cs⟩)) a w') ->
      kN P E X w0 al fr hp a w o id (Dr (.int .i64 n)) [(i,some ⟨e',.ints k cs⟩)]:=by
     intro i e' k' ns cs n hw;obtain⟨w',h1,h2⟩:=hw;exact⟨ρ,_,w',.inl (mA ho (f:=Builtin.copy_) (fun _ _=>rfl) h1),(h2.more id).pure hd ⟨rfl,rfl⟩ (by simp[nP])⟩
    split at he
    ·rename_i i n ms jT aUS;rw[jT]at hy;obtain⟨cap,hv,Dv,hc,_⟩:=hy;split at he
     ·rename_i e' k' ns hb;split at he
      ·rename_i hk;subst hk;obtain⟨e1,e2⟩:=Prod.mk.inj (Option.some.inj he);rw[<-e1,<-e2];obtain⟨hn,_⟩:=hc _ k ns hb rfl;obtain⟨A0,c0,aCN,kV⟩:=vR h aUS;have:=Td (P:=P) h (t':=t') (off:=0) (n:=n) (dcap:=cap) o.type xC Ny hb (by omega) (some ⟨ρ i,0,none⟩) (fun _=>rfl) A0 c0 kV;simp only[List.take_zero,List.nil_append,cBG]at this;refine fin (k':=k) (ns:=ns) ?_;simp only[cBZ,cBD,cBX,hv,aCN];exact this
      ·cases he
     ·cases he
    ·rename_i i off n ms jT aUS;rw[jT]at hy;obtain⟨Ad,cap,hv,Dv,hA,hc⟩:=xY hy;split at he
     ·rename_i e' k' ns hb;split at he
      ·rename_i hk;obtain⟨rfl,hle⟩:=hk;obtain⟨e1,e2⟩:=Prod.mk.inj (Option.some.inj he);rw[<-e1,<-e2];obtain⟨A0,c0,aCN,kV⟩:=vR h aUS;have:=Td (P:=P) h (t':=t') (off:=off) (n:=n) (dcap:=cap) o.type xC Ny hb hle Ad hA A0 c0 kV;refine fin (k':=k) (ns:=ns) ?_;simp only[cBZ,cBD,cBX,hv,aCN];exact this
      ·cases he
     ·cases he
    ·cases he
   ·cases he
  ·cases he
 | [],_,he=>simp at he
 | [_],_,he=>simp at he
 |_ :: _ :: _ :: _,_,he=>simp at he
 | [_,_],[],he=>simp at he
 | [_,_],[_],he=>simp at he
 | [_,_],_ :: _ :: _ :: _,he=>simp at he
def mY(Y:Nat->Prop)(w:World):D->Value->Prop
 | .s x,v=>pM Y w x v
 | .rows sz n f,v=>∃A c,v=.slice A n c/\n<=c/\∀i,i<n->(f i).length=sz/\∃b off,A=some ⟨b,off,none⟩/\wB Y w b (off+i*sz) (f i)
 | .agg cs,v=>∃arr,v=.agg arr/\jO Y w cs arr.toList
 | .own _ k ns,v=>pM Y w (.ints k ns) v
 | .io _ _ _ _ _,_=>False
 | .back _ _ _,_=>False
def Tp(base:Nat)(w:World)(g:Nat)(e:TypeId)(k:IntKind)(ns:List Int)(v:Value):Prop :=
 ∃arr cap,v=.slice (some ⟨g,0,none⟩) ns.length cap/\base<=g/\w.heap[g]?=some (.cells arr e (0,0))/\ns.length<=cap/\cap<=arr.size/\cap<=maxLen/\∀(j:Nat) (n:Int),ns[j]?=some n->arr[j]?=some (Value.int k n)
def lH:D->Bool
 | .own _ _ _=>true
 |_=>false
def Wm(Y:Nat->Prop)(base:Nat)(w:World)(rs:List D)(vs:List Value):Prop :=
 ∃g:Nat->Nat,rs.length=vs.length/\(∀(i j:Nat) (d d':D),rs[i]?=some d->rs[j]?=some d'->lH d=true->lH d'=true->g i=g j->i=j) /\
  ∀(i:Nat) (d:D) (v:Value),rs[i]?=some d->vs[i]?=some v->match d with
   | .own e k ns=>Tp base w (g i) e k ns v
   |d=>mY (fun b=>Y b\/∃(j:Nat) (d':D),rs[j]?=some d'/\lH d'=true/\g j=b) w d v
def resV:List Value->Value
 | [v]=>v
 |vs=>.tuple vs.toArray
def Contract(P:Program)(glob:Nat->Option (IntKind×List Int))(f:FuncId)(ds rs:List D):Prop :=
 ∀(Y:Nat->Prop) (w:World) (vs:List Value),(∀b,Y b->b<w.heap.size)->GlobOk glob Y w->ds.length=vs.length ->
  (∀(i:Nat) (d:D) (v:Value),ds[i]?=some d->vs[i]?=some v->mY Y w d v) ->
  Calls P f vs.toArray w fun e w'=>∃vI,e=.returned (resV vI)/\Below w.heap.size w w'/\Wm Y w.heap.size w' rs vI
def aDZ(w:World)(g len off n:Nat)(v:Value):Prop :=
 ∃o' cap,v=.slice (some ⟨g,o',none⟩) n cap/\n<=cap/\(0<n->o'=off)/\(off=0->o'=0)/\off+n<=len/\cap<=maxLen/\cap<=mM w g
def bCX(w:World)(g:Nat)(e:TypeId)(k:IntKind)(ns:List Int)(off n:Nat)(v:Value):Prop :=
 aDZ w g ns.length off n v/\Hf (fun _=>False) w g ⟨e,.ints k ns⟩
def Gg:D->Bool
 | .io _ _ _ _ _=>true
 |_=>false
def aHU(Y:Nat->Prop)(w:World)(g:Nat->Nat)(i:Nat)(v:Value):D->Prop
 | .io e k ns off n=>Y (g i)/\bCX w (g i) e k ns off n v
 |d=>mY Y w d v
def Wz(w:World)(b:Nat):D->Prop
 | .io e k ns _ _=>Hf (fun _=>False) w b ⟨e,.ints k ns⟩
 |_=>False
structure Fb(M:Nat->Prop)(w w':World):Prop where
 os:w'.os=w.os
 tape:w'.tape=w.tape
 output:w'.output=w.output
 size:w.heap.size<=w'.heap.size
 block:∀b,b<w.heap.size->¬M b->w'.heap[b]?=w.heap[b]?
 room:∀b,M b->mM w' b=mM w b
def Ew(ps:List Nat)(g:Nat->Nat)(b:Nat):Prop:=∃i,i∈ps/\g i=b
def aYH(ps:List Nat)(ds js:List D):Prop :=
 ∀(j i:Nat),ps[j]?=some i->∃e k ns off n e' k' oH,ds[i]?=some (.io e k ns off n)/\js[j]?=some (.io e' k' oH 0 0)/\oH.length=ns.length
def bQE(Y:Nat->Prop)(base:Nat)(w:World)(ps:List Nat)(js:List D)(g0:Nat->Nat)(gi:Nat)(v:Value):D->Prop
 | .own e k ns=>Tp base w gi e k ns v
 | .back p off n=>∃(j:Nat) (e:TypeId) (k:IntKind) (ns:List Int),ps[j]?=some p/\js[j]?=some (.io e k ns 0 0)/\aDZ w (g0 p) ns.length off n v
 |d=>mY Y w d v
def Wl(Y:Nat->Prop)(base:Nat)(w:World)(ps:List Nat)(js:List D)(g0:Nat->Nat)(rs:List D)(vs:List Value):Prop :=
 ∃g:Nat->Nat,rs.length=vs.length/\(∀(i j:Nat) (d d':D),rs[i]?=some d->rs[j]?=some d'->lH d=true->lH d'=true->g i=g j->i=j) /\
  ∀(i:Nat) (d:D) (v:Value),rs[i]?=some d->vs[i]?=some v->bQE (fun b=>Y b\/∃(j:Nat) (d':D),rs[j]?=some d'/\lH d'=true/\g j=b) base w ps js g0 (g i) v d
structure qD(P:Program)(glob:Nat->Option (IntKind×List Int))(f:FuncId)(ps:List Nat)(ds rs js:List D):Prop where
 len:js.length=ps.length
 io:aYH ps ds js
 run:∀(Y:Nat->Prop) (w:World) (vs:List Value) (g:Nat->Nat),(∀b,Y b->b<w.heap.size)->GlobOk glob Y w->ds.length=vs.length ->
  (∀(i:Nat) (d:D) (v:Value),ds[i]?=some d->vs[i]?=some v->aHU Y w g i v d)->(∀i j,i∈ps->j∈ps->g i=g j->i=j) ->
  Calls P f vs.toArray w fun e w'=>∃vI,e=.returned (resV vI)/\Fb (Ew ps g) w w'/\Wl Y w.heap.size w' ps js g rs vI/\∀(j i:Nat) (d:D),ps[j]?=some i->js[j]?=some d->Wz w' (g i) d
def rB(P:Program)(f:FuncId):Prop:=∀(vs:Array Value) (w:World),(callFunc f vs).run P w=.ok (.enter f vs) w
structure kX(P:Program)(E:Env):Prop where
 c:∀f ds g rs,E.ioF f=[]->E.C f ds=some (g,rs)->g->Contract P E.glob f ds rs/\rB P f
 i:∀f p ps ds g rs,E.ioF f=p :: ps->E.C f ds=some (g,rs)->g->∃Hx js,rs=Hx ++ js/\qD P E.glob f (p :: ps) ds Hx js/\rB P f
 x:∀f vs g rs,E.ext f vs=some (g,rs)->g->(∀v∈rs,v.oneCell'=true)/\∀w,(callFunc f vs.toArray).run P w=.ok (.value (resV rs)) w
theorem mY.later{Y Y':Nat->Prop}{w w':World}(h:iT Y w Y' w'){d:D}{v:Value}(r:mY Y w d v):mY Y' w' d v:=by
 cases d with
 |s x=>exact pM.later h r
 |rows sz n f =>
  obtain⟨A0,c,hv,hle,hc⟩:=r;refine⟨A0,c,hv,hle,fun i hi=>?_⟩;obtain⟨hl,b,off,hA,Vb⟩:=hc i hi;exact⟨hl,b,off,hA,Vb.later h⟩
 |agg cs=>obtain⟨arr,hv,hr⟩:=r;exact⟨arr,hv,hr.later h⟩
 |own e k ns=>exact pM.later (s:=.ints k ns) h r
 |io=>exact r
 |back=>exact r
theorem pM.any{Y Y':Nat->Prop}{w w':World}{x:S}{v:Value}(hs:La x=false)(r:pM Y w x v):pM Y' w' x v:=by
 cases x with
 |sc u=>exact r
 |bot=>exact r
 |ints k ns=>cases hs
 |pt x=>cases hs
 |Vu f xs=>cases hs
theorem mY.any{Y Y':Nat->Prop}{w w':World}{d:D}{v:Value}(hs:shares d=false)(ho:lH d=false)(r:mY Y w d v):mY Y' w' d v:=by
 cases d with
 |s x=>exact pM.any hs r
 |rows sz n f=>cases hs
 |agg cs =>
  obtain⟨arr,hv,hl,hr⟩:=r;refine⟨arr,hv,hl,fun i s u h1 h2=>(hr i s u h1 h2).any ?_⟩;have:=List.any_eq_false.1 (show cs.any La=false from hs) s (cBN h1);simpa using this
 |own e k ns=>cases ho
 |io=>exact r
 |back=>exact r
def aDT(args:List A):rL:=(args.flatMap refs).map fun i=>(i,none)
theorem aAF(args:List A):Cons (aDT args):=by
 intro p hp;obtain⟨i,_,rfl⟩:=List.mem_map.1 hp;rfl
theorem Hq(h:jY E X w0 ρ al fr hp a w){u:rL}(hu:Cons u){y:A}{v:Value}(hr:xW ρ hp (XO X ρ hp) w y v)(Zc:∀i∈refs y,(i,none)∈u){d:D}(hd:toD hp y=some d):mY (XO X ρ (applyUps u hp)) w d v:=by
 have hl:iT (XO X ρ hp) w (XO X ρ (applyUps u hp)) w:=iT.cons hu;unfold toD at hd;split at hd
 ·cases hd;obtain⟨arr,hv,hs⟩:=hr;exact⟨arr,hv,hs.later hl⟩
 ·cases hd;exact pM.later hl hr
 ·cases hd;exact mY.later hl (d:=.rows _ _ _) hr
 ·rename_i i n;split at hd
  ·rename_i e k ns hb;cases hd;obtain⟨cap,hv,Dv,hc,_⟩:=hr;obtain⟨hn,_⟩:=hc _ k ns hb rfl;subst hn;refine⟨_,cap,hv,Dv,fun j m hj=>⟨ρ i,0,rfl,h.kB hb,h.Sv hb hu (Zc i (by simp[refs,refsV,refsL])),?_⟩⟩;rw[cBG];exact h.zM hb hj
  ·rename_i e cs hb;split at hd
   ·rename_i hlen;cases hd;obtain⟨cap,hv,Dv,_⟩:=hr;refine⟨_,cap,hv,Dv,fun j hj=>?_⟩;have hle:(j+1)*(cs.length/n)<=n*(cs.length/n):=cCT _ hj;rw[cBY,Nat.one_mul]at hle;refine⟨by simp;omega,ρ i,0,rfl,fun m s hm=>?_⟩;have bNH:m<cs.length/n:=by
     have:=aX hm;simp at this;omega
    rw[cBJ bNH,cBR]at hm;obtain⟨_,hB⟩:=h.blk i _ hb;obtain⟨arr,aVD,bHQ⟩:=hB;obtain⟨aXR,Vb⟩:=bHQ;obtain⟨u0,bDJ,bMY⟩:=Vb _ _ hm;refine⟨h.kB hb,h.Sv hb hu (Zc i (by simp[refs,refsV,refsL])),u0,?_,pM.later hl bMY⟩;rw[cell_of_row w (ρ i) _ arr e (0,0) aVD,cBG];exact bDJ
   ·cases hd
  ·cases hd
 ·rename_i i off n;split at hd
  ·rename_i e k ns hb;cases hd;obtain⟨A0,cap,hv,Dv,hA,hc⟩:=xY hr;have hle:=hc _ k ns hb rfl;have hlen:((ns.drop off).take n).length=n:=by simp;omega
   refine⟨A0,cap,by rw[hlen];exact hv,by rw[hlen];exact Dv,fun j m hj=>?_⟩;have aCW:j<n:=by have:=aX hj;omega
   refine⟨ρ i,off,hA (by omega),h.kB hb,h.Sv hb hu (Zc i (by simp[refs,refsV,refsL])),?_⟩;rw[cBJ aCW,cBR]at hj;exact h.zM hb hj
  ·cases hd
 ·cases hd
theorem jY.called(h:jY E X w0 ρ al fr hp a w){w':World}(hB:Below w.heap.size w w'){ρ':Nat->Nat}{hp':Nat->Option kY}{al':Nat->Prop}(tH:∀i,al i->al' i)
  (hold:∀i,al i->ρ' i=ρ i/\hp' i=hp i) (uL:∀i b,hp' i=some b->¬al i->al' i/\w.heap.size<=ρ' i/\∀Y,Hf Y w' (ρ' i) b)
  (Bq:∀i j b c,hp' i=some b->hp' j=some c->¬al i->¬al j->ρ' i=ρ' j->i=j):jY E X w0 ρ' al' fr hp' a w'/\iT (XO X ρ hp) w (XO X ρ' hp') w':=by
 have aCX:Kept w0 w w':=⟨hB.os,hB.tape,hB.output,hB.size,fun b hb=>hB.block b (by have:=h.below.size;have:=Old.Yi hb;omega),fun b hb=>yL (hB.block b (by have:=h.below.size;have:=w0.bEZ b hb;omega))⟩;have hl:iT (XO X ρ hp) w (XO X ρ' hp') w':=by
  refine⟨hB.size,fun b hb hx=>⟨hB.block b hb,fun ho=>?_⟩⟩;rcases ho with ho |⟨i,bl,h1,h2⟩
  ·exact hx (.inl ho)
  ·by_cases hi:al i
   ·obtain⟨e1,e2⟩:=hold i hi;exact hx (.inr ⟨i,bl,by rw[<-e2];exact h1,by rw[<-e1];exact h2⟩)
   ·have:=(uL i bl h1 hi).2.1;omega
 refine⟨h.change hl aCX ?_ ?_ ?_ tH ?_,hl⟩
 ·intro i hi;obtain⟨e1,e2⟩:=hold i hi;refine⟨e1,fun b' tR=>?_⟩;rw[e2]at tR;refine⟨b',tR,sameShape.refl _,?_⟩;unfold mM;rw[hB.block _ (h.kB tR)]
 ·intro i b hb
  by_cases hi:al i
  ·obtain⟨e1,e2⟩:=hold i hi;rw[e2]at hb;rw[e1];exact⟨(h.blk i b hb).1,(h.blk i b hb).2.later hl (hB.block _ (h.kB hb))⟩
  ·obtain⟨_,h2,h3⟩:=uL i b hb hi;exact⟨.inl (cCA h.below.size h2),h3 _⟩
 ·intro i j b c hb hc e
  by_cases hi:al i
  ·obtain⟨e1,e2⟩:=hold i hi
   by_cases hj:al j
   ·obtain⟨e3,e4⟩:=hold j hj;rw[e2]at hb;rw[e4]at hc;rw[e1,e3]at e;exact h.inj i j b c hb hc e
   ·rw[e2]at hb;have:=h.kB hb;have:=(uL j c hc hj).2.1;omega
  ·by_cases hj:al j
   ·obtain⟨e3,e4⟩:=hold j hj;rw[e4]at hc;have:=h.kB hc;have:=(uL i b hb hi).2.1;omega
   ·exact Bq i j b c hb hc hi hj e
 ·intro i b hb
  by_cases hi:al i
  ·exact tH i hi
  ·exact(uL i b hb hi).1
theorem jY.aQX(h:jY E X w0 ρ al fr hp a w){w':World}{M:Nat->Prop}(hB:Fb M w w')(hM:∀b,M b->Own ρ hp b){ρ':Nat->Nat}{hp':Nat->Option kY}{al':Nat->Prop}(tH:∀i,al i->al' i)
  (hρ:∀i,al i->ρ' i=ρ i)
  (hold:∀i b',al i->hp' i=some b'->(¬M (ρ i)/\hp i=some b')\/(M (ρ i)/\∃b,hp i=some b/\sameShape b b'/\∀Y,Hf Y w' (ρ i) b'))
  (uL:∀i b,hp' i=some b->¬al i->al' i/\w.heap.size<=ρ' i/\∀Y,Hf Y w' (ρ' i) b)
  (Bq:∀i j b c,hp' i=some b->hp' j=some c->¬al i->¬al j->ρ' i=ρ' j->i=j):jY E X w0 ρ' al' fr hp' a w'/\iT (XO X ρ hp) w (XO X ρ' hp') w':=by
 have bGO:∀b,M b->w0.Kl b:=fun b hb=>by
  obtain⟨id,bl,h1,rfl⟩:=hM b hb;exact(h.blk id bl h1).1.Kl
 have aCX:Kept w0 w w':=⟨hB.os,hB.tape,hB.output,hB.size,fun b hb=>hB.block b (by have:=h.below.size;have:=Old.Yi hb;omega) (fun hm=>hb (bGO b hm)),fun b hb=>by
  by_cases hm:M b
  ·exact hB.room b hm
  ·exact yL (hB.block b (by have:=h.below.size;have:=w0.bEZ b hb;omega) hm)⟩
 have Zd:∀i b',al i->hp' i=some b'->∃b,hp i=some b/\sameShape b b':=by
  intro i b' hi hb;rcases hold i b' hi hb with ⟨_,h2⟩ |⟨_,b,h2,h3,_⟩
  ·exact⟨b',h2,sameShape.refl _⟩
  ·exact⟨b,h2,h3⟩
 have hl:iT (XO X ρ hp) w (XO X ρ' hp') w':=by
  refine⟨hB.size,fun b hb hx=>⟨hB.block b hb (fun hm=>hx (.inr (hM b hm))),fun ho=>?_⟩⟩;rcases ho with ho |⟨i,bl,h1,h2⟩
  ·exact hx (.inl ho)
  ·by_cases hi:al i
   ·obtain⟨b0,h3,_⟩:=Zd i bl hi h1;exact hx (.inr ⟨i,b0,h3,by rw[<-hρ i hi];exact h2⟩)
   ·have:=(uL i bl h1 hi).2.1;omega
 have sQ:∀i b,al i->hp i=some b->mM w' (ρ i)=mM w (ρ i):=by
  intro i b hi hb
  by_cases hm:M (ρ i)
  ·exact hB.room _ hm
  ·exact yL (hB.block _ (h.kB hb) hm)
 refine⟨h.change hl aCX ?_ ?_ ?_ tH ?_,hl⟩
 ·intro i hi;refine⟨hρ i hi,fun b' tR=>?_⟩;obtain⟨b,h2,h3⟩:=Zd i b' hi tR;exact⟨b,h2,h3,sQ i b hi h2⟩
 ·intro i b hb
  by_cases hi:al i
  ·rw[hρ i hi];rcases hold i b hi hb with ⟨hm,h2⟩ |⟨_,b0,h2,_,h4⟩
   ·exact⟨(h.blk i b h2).1,(h.blk i b h2).2.later hl (hB.block _ (h.kB h2) hm)⟩
   ·exact⟨(h.blk i b0 h2).1,h4 _⟩
  ·obtain⟨_,h2,h3⟩:=uL i b hb hi;exact⟨.inl (cCA h.below.size h2),h3 _⟩
 ·intro i j b c hb hc e
  by_cases hi:al i
  ·obtain⟨b0,h1,_⟩:=Zd i b hi hb
   by_cases hj:al j
   ·obtain⟨c0,h2,_⟩:=Zd j c hj hc;rw[hρ i hi,hρ j hj]at e;exact h.inj i j b0 c0 h1 h2 e
   ·rw[hρ i hi]at e;have:=h.kB h1;have:=(uL j c hc hj).2.1;omega
  ·by_cases hj:al j
   ·obtain⟨c0,h2,_⟩:=Zd j c hj hc;rw[hρ j hj]at e;have:=h.kB h2;have:=(uL i b hb hi).2.1;omega
   ·exact Bq i j b c hb hc hi hj e
 ·intro i b hb
  by_cases hi:al i
  ·exact tH i hi
  ·exact(uL i b hb hi).1
theorem Au(keep:Bool):∀(rs:List D) (id:Nat),(takeAll keep id rs).1.length=rs.length
 | [],_=>rfl
 |d :: r,id=>by simp[takeAll,Au keep r (id+1)]
theorem Av(keep:Bool):∀(rs:List D) (id:Nat) (i:Nat) (d:D),rs[i]?=some d->(takeAll keep id rs).1[i]?=some (takeIn keep (id+i) d).1
 |d0 :: r,id,0,d,h=>by simp at h;subst h;rfl
 |d0 :: r,id,i+1,d,h=>by
  simp only[cDB]at h;have:=Av keep r (id+1) i d h;simp only[takeAll,cDB,this];rw[show id+1+i=id+(i+1) by omega]
theorem takeAll_ups(keep:Bool):∀(rs:List D) (id:Nat) (hp:Nat->Option kY) (j:Nat),
  applyUps (takeAll keep id rs).2 hp j=match (if id<=j then rs[j-id]? else none)with
   |some (.own e k ns)=>if keep=true then some ⟨e,.ints k ns⟩else hp j
   |_=>hp j
 | [],id,hp,j=>by simp[takeAll,applyUps]
 |d :: r,id,hp,j=>by
  simp only[takeAll];rw[lV,takeAll_ups keep r (id+1)]
  by_cases hj:id+1<=j
  ·rw[if_pos hj,aQ];have e:j-id=(j-(id+1))+1:=by omega
   rw[e,cDB];have hd:applyUps (takeIn keep id d).2 hp j=hp j:=by
    cases d <;> cases keep <;> first |rfl | (simp only[takeIn,cond_true,applyUps];rw[gB _ _ (by omega)])
   rw[hd]
  ·rw[if_neg hj]
   by_cases bXU:id<=j
   ·obtain rfl:j=id:=by omega
    rw[if_pos (cBE _),Nat.sub_self];cases d <;> cases keep <;> simp[takeIn,applyUps,bW]
   ·rw[if_neg bXU];cases d <;> cases keep <;> first |rfl | (simp only[takeIn,cond_true,applyUps];rw[gB _ _ (by omega)])
end
end AI
namespace AI
open Go Go.RowKit
section
variable {P:Program} {E:Env} {X:Nat->Prop} {w0:Old} {ρ:Nat->Nat} {al:Nat->Prop} {fr:Nat->A} {hp:Nat->Option kY} {a:Act} {w:World} {o:Oper} {id:Nat} {x:A} {u:rL}
def Pp(P:Program)(E:Env)(X:Nat->Prop)(w0:Old)(al:Nat->Prop)(fr:Nat->A)(hp:Nat->Option kY)(a:Act)(w:World)(o:Oper)(id:Nat)(x:A)(u:rL):Prop :=
 ∀(next:Act->World->Prop) (Q:Exit->Act->World->Prop),(∀ρ' v w',jY E X w0 ρ' (pA al id) (Er o x fr) (applyUps u hp) (a.put o.dst v) w'->next (a.put o.dst v) w')->o.wp P a w next Q
theorem kN.step(h:kN P E X w0 al fr hp a w o id x u):Pp P E X w0 al fr hp a w o id x u:=by
 intro next Q hn;obtain⟨ρ',v,w',hr,hs⟩:=h;unfold Oper.wp;rcases hr with hr |⟨hr,rfl⟩
 ·rw[hr];exact hn ρ' v w' hs
 ·rw[hr];exact hn ρ' undef w' hs
theorem Yr{α β:Type}{f:α->Option β}:∀{l:List α} {r:List β},l.mapM f=some r->∀(i:Nat) (y:β),r[i]?=some y->∃x,l[i]?=some x/\f x=some y
 | [],r,h,i,y,hy=>by simp at h;subst h;simp at hy
 |x :: l,r,h,i,y,hy=>by
  rw[cCN]at h;simp only[cDJ,cDK,cDL,Option.some.injEq]at h;obtain⟨z,hz,zs,aGJ,rfl⟩:=h
  match i with
  |0=>simp at hy;subst hy;exact⟨x,rfl,hz⟩
  |i+1=>simp at hy ⊢;exact Yr aGJ i y hy
theorem aCH{args:List A}{y:A}(hy:y∈args){i:Nat}(hi:i∈refs y):(i,none)∈aDT args :=
 List.mem_map.2 ⟨i,List.mem_flatMap.2 ⟨y,hy,hi⟩,rfl⟩
theorem Eg(h:jY E X w0 ρ al fr hp a w):∀{args:List Operand} {vs:List Value},argVals (args.map (evA E fr))=some vs->args.map a.eval=vs
 | [],vs,he=>by cases he;rfl
 |y :: ys,vs,he=>by
  simp only[cBD]at he ⊢;unfold argVals at he;split at he
  ·cases ‹_ :: _=[]›
  ·rename_i v r jT;obtain⟨e1,e2⟩:=List.cons.inj jT;obtain⟨vr,bRM,rfl⟩:=Option.map_eq_some_iff.1 he;have hy:=(h.ev y).1;rw[e1]at hy;rw[<-e2]at bRM;rw[Eg h bRM,hy.1]
  ·cases he
theorem Ok{R:Type}{g:Prop}{x:Option R}{r:R}(h:aM g x=some r):g/\x=some r:=by
 unfold aM at h;split at h
 ·rename_i hg;exact⟨hg,h⟩
 ·cases h
theorem aGV{R:Type}{g:Prop}{x:Option R}(h:g):aM g x=x:=by unfold aM;rw[if_pos h]
theorem aVR (h : jY E X w0 ρ al fr hp a w) (hd : jX E.nt o = true) (hC : kX P E) {f : FuncId} {fo : Operand} (hf : a.eval fo = .func (.func f) #[] #[]) {args : List Operand} {yQ : Array TypeId} (ho : o.op = .call ⟨.value fo, args.toArray, yQ⟩) {g : Prop} {rs : List Value} (hr : (argVals (args.map (evA E fr))).bind (E.ext f) = some (g, rs)) (hg : g)
    (he : some (bEU rs, []) = some (x, u)) : kN P E X w0 al fr hp a w o id x u := by
  obtain ⟨vs, bFQ, hx⟩ := Option.bind_eq_some_iff.1 hr
  obtain ⟨Kn, gY⟩ := hC.x f vs g rs hx hg
  have hargs := Eg h bFQ
  have hex : (execOp a.eval o).run P w = .ok (.value (resV rs)) w := by
    unfold execOp
    rw [ho]
    simp only [resolve, hf, Deferred.ofValue, Sem.run_bind, Sem.run_pure, Result.andThen_ok, invoke]
    rw [← gY w]
    congr 1
    simp [← hargs]
  match rs, he with
  | [v], he =>
    obtain ⟨e1, e2⟩ := Prod.mk.inj (Option.some.inj he)
    rw [← e1, ← e2]
    exact cS h hd hex ⟨rfl, Kn v (by simp)⟩ (by intro i hi; cases hi)
  | [], he =>
    obtain ⟨e1, e2⟩ := Prod.mk.inj (Option.some.inj he)
    rw [← e1, ← e2]
    exact cS h hd hex ⟨#[], rfl, rfl, fun i y v hy => by simp at hy⟩ (by intro i hi; cases hi)
  | v1 :: v2 :: vr, he =>
    obtain ⟨e1, e2⟩ := Prod.mk.inj (Option.some.inj he)
    rw [← e1, ← e2]
    refine cS h hd hex ⟨(v1 :: v2 :: vr).toArray, rfl, by simp, fun i y v hy hv => ?_⟩ ?_
    · simp only [cBI, cCG] at hy
      obtain ⟨q, hq, rfl⟩ := hy
      have : q = v := by have : (v1 :: v2 :: vr)[i]? = some v := by simpa using hv
                         rw [hq] at this; exact Option.some.inj this
      subst this
      exact ⟨rfl, Kn q (cBN hq)⟩
    · intro j hj
      obtain ⟨y, hy, hj⟩ := List.mem_flatMap.1 hj
      obtain ⟨q, _, rfl⟩ := List.mem_map.1 hy
      simp [refsV, refsL] at hj
theorem aGE:∀{l r:List Nat},leqN l r=true->l=r
 | [],[],_=>rfl
 |a :: l,b :: r,h=>by
  simp only[leqN,cBK]at h;rw[cBT h.1,aGE h.2]
 | [],_ :: _,h=>by cases h
 |_ :: _,[],h=>by cases h
theorem By(ps:List Nat)(hp:Nat->Option kY):∀(args:List A) (i:Nat) (us:List (Nat×Nat)) (ds:List D),argsIO ps hp i args=some (us,ds) ->
  (∃gid:Nat->Nat,∀q∈us,i<=q.1/\gid q.1=q.2)/\(∀q∈us,∃y d,args[q.1-i]?=some y/\i<=q.1/\toIO hp y=some (q.2,d)/\ds[q.1-i]?=some d)/\ds.length=args.length /\
  ∀(j:Nat) (d:D),ds[j]?=some d->∃y,args[j]?=some y/\((∃k,toIO hp y=some (k,d)/\(i+j,k)∈us)\/(toD hp y=some d/\∀r∈refs y,r∈qN ps i args))
 | [],i,us,ds,h=>by
  cases h;exact⟨⟨fun _=>0,fun q hq=>by cases hq⟩,fun q hq=>(by cases hq),rfl,fun j d hj=>by simp at hj⟩
 |y :: args,i,us,ds,h=>by
  unfold argsIO at h;cases Io:ps.elem i with
  |true =>
   rw[Io]at h;simp only[cond_true]at h;split at h
   ·rename_i k d Oc;split at h
    ·rename_i bQP ds' hr;cases h;obtain⟨⟨gid,h1⟩,h2,h3,h4⟩:=By ps hp args (i+1) bQP ds' hr;refine⟨⟨fun q=>if q=i then k else gid q,?_⟩,?_,by simp[h3],?_⟩
     ·intro q hq;rcases List.mem_cons.1 hq with rfl |hq
      ·exact⟨cBE _,by simp⟩
      ·obtain⟨h5,h6⟩:=h1 q hq;exact⟨by omega,by simp only;rw[aO];exact h6⟩
     ·intro q hq;rcases List.mem_cons.1 hq with rfl |hq
      ·exact⟨y,d,by simp,cBE _,Oc,by simp⟩
      ·obtain⟨y',d',h5,h6,h7,h8⟩:=h2 q hq;exact⟨y',d',by rw[show q.1-i=(q.1-(i+1))+1 by omega];simpa using h5,by omega,h7,by rw[show q.1-i=(q.1-(i+1))+1 by omega];simpa using h8⟩
     ·intro j d' hj
      match j with
      |0 =>
       simp at hj;subst hj;exact⟨y,rfl,.inl ⟨k,Oc,by simp⟩⟩
      |j+1 =>
       obtain⟨y',h5,h6⟩:=h4 j d' (by simpa using hj);refine⟨y',by simpa using h5,?_⟩;rcases h6 with ⟨k',h7,h8⟩ |⟨h7,h8⟩
       ·exact .inl ⟨k',h7,cBP _ (by rw[show i+(j+1)=i+1+j by omega];exact h8)⟩
       ·exact .inr ⟨h7,fun r hr=>by unfold qN;exact cDV _ (h8 r hr)⟩
    ·cases h
   ·cases h
  |false =>
   rw[Io]at h;simp only[cond_false]at h;split at h
   ·rename_i d Oc;split at h
    ·rename_i bQP ds' hr;cases h;obtain⟨⟨gid,h1⟩,h2,h3,h4⟩:=By ps hp args (i+1) us ds' hr;refine⟨⟨gid,fun q hq=>⟨by have:=(h1 q hq).1;omega,(h1 q hq).2⟩⟩,?_,by simp[h3],?_⟩
     ·intro q hq;obtain⟨y',d',h5,h6,h7,h8⟩:=h2 q hq;exact⟨y',d',by rw[show q.1-i=(q.1-(i+1))+1 by omega];simpa using h5,by omega,h7,by rw[show q.1-i=(q.1-(i+1))+1 by omega];simpa using h8⟩
     ·intro j d' hj
      match j with
      |0 =>
       simp at hj;subst hj;exact⟨y,rfl,.inr ⟨Oc,fun r hr=>by unfold qN;rw[Io];exact List.mem_append_left _ hr⟩⟩
      |j+1 =>
       obtain⟨y',h5,h6⟩:=h4 j d' (by simpa using hj);refine⟨y',by simpa using h5,?_⟩;rcases h6 with ⟨k',h7,h8⟩ |⟨h7,h8⟩
       ·exact .inl ⟨k',h7,by rw[show i+(j+1)=i+1+j by omega];exact h8⟩
       ·exact .inr ⟨h7,fun r hr=>by unfold qN;exact cDV _ (h8 r hr)⟩
    ·cases h
   ·cases h
theorem Kb:∀(us:List (Nat×Nat)) (js:List D) (ub:rL),backIO us js=some ub->ub.map (·.1)=us.map (·.2)/\∀(j:Nat) (q:Nat×Nat),us[j]?=some q->∃e k ns o n,js[j]?=some (.io e k ns o n)/\ub[j]?=some (q.2,some ⟨e,.ints k ns⟩)
 | [],[],ub,h=>by cases h;exact⟨rfl,fun j q hj=>by simp at hj⟩
 | (p,k) :: us,d :: js,ub,h=>by
  cases d with
  |io e kk ns o n =>
   simp only[backIO]at h;split at h
   ·rename_i bUK hr;cases h;obtain⟨h1,h2⟩:=Kb us js bUK hr;refine⟨by simp[h1],fun j q hj=>?_⟩
    match j with
    |0=>simp at hj;subst hj;exact⟨e,kk,ns,o,n,rfl,rfl⟩
    |j+1 =>
     obtain⟨e',k',oH,o',n',h3,h4⟩:=h2 j q (by simpa using hj);exact⟨e',k',oH,o',n',by simpa using h3,by simpa using h4⟩
   ·cases h
  |s=>cases h
  |rows=>cases h
  |agg=>cases h
  |own=>cases h
  |back=>cases h
 | [],_ :: _,ub,h=>by cases h
 |_ :: _,[],ub,h=>by cases h
theorem tL{i:Nat}:∀{u:rL} {hp:Nat->Option kY},i ∉ u.map (·.1)->applyUps u hp i=hp i
 | [],_,_=>rfl
 | (j,b) :: u,hp,h=>by
  simp only[cBD,cCM,not_or]at h;simp only[applyUps];rw[tL h.2,gB _ _ h.1]
theorem Kc{i:Nat}{b:Option kY}:∀{u:rL} {hp:Nat->Option kY} {j:Nat},nodup (u.map (·.1))=true->u[j]?=some (i,b)->applyUps u hp i=b
 | [],_,j,_,h=>by simp at h
 | (k,c) :: u,hp,j,hn,h=>by
  simp only[cBD,nodup,cBK,cCO]at hn
  match j with
  |0 =>
   simp at h;obtain⟨rfl,rfl⟩:=h;simp only[applyUps];rw[tL (fun hm=>by
    have:(u.map (·.1)).elem k=true:=by simpa using hm
    rw[this]at hn;cases hn.1),bW]
  |j+1 =>
   simp only[applyUps];exact Kc (j:=j) hn.2 (by simpa using h)
theorem Ie{α:Type}{f:α->Nat}:∀{l:List α} {j j':Nat} {q q':α},nodup (l.map f)=true->l[j]?=some q->l[j']?=some q'->f q=f q'->j=j'
 | [],j,_,q,_,_,h,_,_=>by simp at h
 |y :: l,j,j',q,q',hn,h,h',he=>by
  simp only[cBD,nodup,cBK,cCO]at hn;have Al:∀z∈l,f z≠f y:=fun z hz e=>by
   have:(l.map f).elem (f y)=true:=by
    have:f y∈l.map f:=List.mem_map.2 ⟨z,hz,e⟩;simpa using this
   rw[this]at hn;cases hn.1
  match j,j' with
  |0,0=>rfl
  |0,j'+1=>simp at h h';subst h;exact absurd he.symm (Al q' (cBN h'))
  |j+1,0=>simp at h h';subst h';exact absurd he (Al q (cBN h))
  |j+1,j'+1=>exact congrArg (·+1) (Ie hn.2 (by simpa using h) (by simpa using h') he)
theorem aQF{xs ys:List Nat}(h:Rh xs ys=true){x:Nat}(hx:x∈xs):x ∉ ys:=fun hy=>by
 have:=List.all_eq_true.1 h x hx;have h2:ys.elem x=true:=by simpa using hy
 rw[h2]at this;cases this
theorem Hp{y:A}{k:Nat}{d:D}(h:toIO hp y=some (k,d)):∃e kk ns off n,d=.io e kk ns off n/\hp k=some ⟨e,.ints kk ns⟩/\((y=.v (.one (.buf k n))/\off=0)\/y=.v (.one (.view k off n))):=by
 unfold toIO at h;split at h
 ·split at h
  ·rename_i e kk ns hb;cases h;exact⟨_,_,_,_,_,rfl,hb,.inl ⟨rfl,rfl⟩⟩
  ·cases h
 ·split at h
  ·rename_i e kk ns hb;cases h;exact⟨_,_,_,_,_,rfl,hb,.inr rfl⟩
  ·cases h
 ·cases h
theorem aBO(h:jY E X w0 ρ al fr hp a w){y:A}{v:Value}(hr:xW ρ hp (XO X ρ hp) w y v){k:Nat}{e:TypeId}{kk:IntKind}{ns:List Int}{off n:Nat}(hd:toIO hp y=some (k,.io e kk ns off n)):bCX w (ρ k) e kk ns off n v:=by
 obtain⟨e',kk',oH,bFA,n',heq,hb,hy⟩:=Hp hd;cases heq;have hB:Hf (fun _=>False) w (ρ k) ⟨e,.ints kk ns⟩:=(h.blk k _ hb).2;rcases hy with ⟨rfl,rfl⟩ |rfl
 ·obtain⟨cap,hv,Dv,hc,_⟩:=hr;have:=hc _ kk ns hb rfl;exact⟨⟨0,cap,hv,Dv,fun _=>rfl,fun _=>rfl,by omega,this.2.1,this.2.2⟩,hB⟩
 ·obtain⟨o',cap,hv,Dv,hA,hA0,hc⟩:=hr;have:=hc _ kk ns hb rfl;exact⟨⟨o',cap,hv,Dv,hA,hA0,this⟩,hB⟩
theorem aHY{y:A}{d:D}(h:toD hp y=some d):Gg d=false:=by
 unfold toD at h;split at h
 ·cases h;rfl
 ·cases h;rfl
 ·cases h;rfl
 ·split at h
  ·cases h;rfl
  ·split at h
   ·cases h;rfl
   ·cases h
  ·cases h
 ·split at h
  ·cases h;rfl
  ·cases h
 ·cases h
theorem Pl{Y:Nat->Prop}{w:World}{g:Nat->Nat}{i:Nat}{v:Value}{d:D}(hn:Gg d=false)(h:mY Y w d v):aHU Y w g i v d:=by
 cases d with
 |io=>cases hn
 |s x=>exact h
 |rows a b c=>exact h
 |agg cs=>exact h
 |own a b c=>exact h
 |back=>exact h
theorem aGI{gid:Nat->Nat}:∀{us:List (Nat×Nat)} {q:Nat×Nat},(∀q∈us,gid q.1=q.2)->q∈us->idAt us q.1=gid q.1
 | [],q,_,h=>by cases h
 |q0 :: us,q,hg,h=>by
  simp only[idAt];cases hb:cBF q0.1 q.1 with
  |true =>
   rw[cond_true,<-cBT hb];exact(hg q0 (cBL ..)).symm
  |false =>
   rw[cond_false];rcases List.mem_cons.1 h with rfl |h
   ·rw[Nat.beq_refl]at hb;cases hb
   ·exact aGI (fun q hq=>hg q (cBP _ hq)) h
theorem aBY{us:List (Nat×Nat)}{d:D}{e:TypeId}{k:IntKind}{ns:List Int}(h:reBack us d=.own e k ns):d=.own e k ns:=by
 cases d <;> first |exact h |cases h
theorem eff_callIO(h:jY E X w0 ρ al fr hp a w)(hd:jX E.nt o=true)(hC:kX P E)(xH:∀j,j<8->¬al (id+j)){f:FuncId}{fo:Operand}(hf:a.eval fo=.func (.func f) #[] #[]){args:List Operand}{yQ:Array TypeId}(ho:o.op=.call ⟨.value fo,args.toArray,yQ⟩){p:Nat}{ps:List Nat}(Oc:E.ioF f=p :: ps)
  (he:callIO E (p :: ps) id (keepOf E o) f (args.map (evA E fr)) hp (fun a u=>some (a,u))=some (x,u)):Pp P E X w0 al fr hp a w o id x u:=by
 simp only[callIO,Fx]at he;generalize keepOf E o=keep at he;split at he
 ·cases he
 ·rename_i us ds bDT;cases aUZ:leqN (us.map (·.1)) (p :: ps)&&(nodup (us.map (·.2))&&Rh (us.map (·.2)) (qN (p :: ps) 0 (args.map (evA E fr))))with
  |false=>rw[aUZ]at he;cases he
  |true =>
  rw[aUZ]at he;simp only[cond_true]at he;simp only[cBK]at aUZ;obtain⟨bDW,bAH,bOB⟩:=aUZ;have Io:us.map (·.1)=p :: ps:=aGE bDW;split at he
  ·cases he
  ·rename_i gd rs bFZ;obtain⟨bDQ,he⟩:=Ok he;obtain⟨Hx,js,rfl,aPA,Og⟩:=hC.i f p ps ds gd rs Oc bFZ bDQ;have bJK:us.length=(p :: ps).length:=by rw[<-Io];simp
   have aJE:(Hx ++ js).length-us.length=Hx.length:=by rw[cCI,aPA.len,bJK];omega
   rw[aJE]at he;rw[cCV,cDW]at he;cases aGS:cBH us.length (Hx ++ js).length&&cBH (Hx ++ js).length 8&&!(Hx.any shares)with
   |false=>rw[aGS]at he;cases he
   |true =>
   rw[aGS]at he;simp only[cond_true]at he;simp only[cBK,cCO]at aGS;obtain⟨⟨_,bXK⟩,bGJ⟩:=aGS;have Yz:Hx.length<=8:=by have:=cDC bXK;rw[cCI]at this;omega
   split at he
   ·cases he
   ·rename_i ub bRP;obtain⟨⟨gid,aOV⟩,bWH,bDU,bNY⟩:=By _ _ _ _ _ _ bDT;obtain⟨bFT,bFS⟩:=Kb _ _ _ bRP;rw[cCS]at bDU;obtain⟨U,hU⟩:∃U:rL,U=(qN (p :: ps) 0 (args.map (evA E fr))).map fun i=>(i,none):=⟨_,rfl⟩
    have aSP:Cons U:=by rw[hU];intro q hq;obtain⟨i,_,rfl⟩:=List.mem_map.1 hq;rfl
    have bZB:U.map (·.1)=qN (p :: ps) 0 (args.map (evA E fr)):=by rw[hU,List.map_map];exact List.map_id _
    have Kp:∀q∈us,∃e kk ns off n,hp q.2=some ⟨e,.ints kk ns⟩/\ds[q.1]?=some (.io e kk ns off n):=by
     intro q hq;obtain⟨y,d,h1,_,h2,h3⟩:=bWH q hq;obtain⟨e,kk,ns,off,n,rfl,h4,_⟩:=Hp h2;exact⟨e,kk,ns,off,n,h4,by simpa using h3⟩
    have bAA:∀q∈us,applyUps U hp q.2=hp q.2:=fun q hq=>tL (by rw[bZB];exact aQF bOB (List.mem_map.2 ⟨q,hq,rfl⟩))
    have pE:∀i,i∈p :: ps->∃q∈us,q.1=i/\gid i=q.2:=by
     intro i hi;rw[<-Io]at hi;obtain⟨q,hq,rfl⟩:=List.mem_map.1 hi;exact⟨q,hq,rfl,(aOV q hq).2⟩
    have hY:∀b,XO X ρ (applyUps U hp) b->b<w.heap.size:=by
     rintro b (hb |⟨i,bl,h1,h2⟩)
     ·have:=Old.Yi (h.x0 b hb);have:=h.below.size;omega
     ·have:=h.kB (iV aSP h1);omega
    have hG:GlobOk E.glob (XO X ρ (applyUps U hp)) w:=by
     intro g k ns hg;obtain⟨h1,h2,h3⟩:=h.Vf g k ns hg;exact⟨h1,fun ho=>h2 (ho.imp (fun h=>h) (Own.of_cons aSP)),h3.later (iT.cons aSP)⟩
    obtain⟨g0,hg0⟩:∃g0:Nat->Nat,g0=fun i=>ρ (gid i):=⟨_,rfl⟩
    have aYD:∀b,Ew (p :: ps) g0 b->∃q∈us,ρ q.2=b:=by
     rintro b ⟨i,hi,rfl⟩;obtain⟨q,hq,_,h2⟩:=pE i hi;exact⟨q,hq,by rw[hg0];simp only;rw[h2]⟩
    have aPC:=aPA.run (XO X ρ (applyUps U hp)) w (args.map a.eval) g0 hY hG (by simp[bDU]) (fun i d v hi hv=>by
     obtain⟨y,aOH,aZX⟩:=bNY i d hi;simp only[cBI,cCG]at aOH hv;obtain⟨z,hz,rfl⟩:=aOH;obtain⟨z',aZW,rfl⟩:=hv;rw[hz]at aZW;cases aZW;have jT:=h.ev z;rcases aZX with ⟨k,h1,h2⟩ |⟨h1,h2⟩
     ·rw[cBG]at h2;obtain⟨e,kk,ns,off,n,rfl,h4,_⟩:=Hp h1;have e1:g0 i=ρ k:=by rw[hg0];simp only;rw[(aOV _ h2).2]
      refine⟨by rw[e1];exact .inr ⟨k,_,(bAA _ h2).trans h4,rfl⟩,by rw[e1];exact aBO h jT.1 h1⟩
     ·refine Pl (aHY h1) (Hq h aSP jT.1 (fun i hi=>?_) h1);rw[hU];exact List.mem_map.2 ⟨i,h2 i hi,rfl⟩) (fun i j hi hj heq=>by
     obtain⟨q,hq,rfl,h1⟩:=pE i hi;obtain⟨q',aGL,rfl,h2⟩:=pE j hj;rw[hg0]at heq;simp only[h1,h2]at heq;obtain⟨e1,k1,n1,o1,m1,xQ,_⟩:=Kp q hq;obtain⟨e2,k2,n2,o2,m2,aCZ,_⟩:=Kp q' aGL;have h3:=h.inj _ _ _ _ xQ aCZ heq;obtain⟨a1,aVD⟩:=cCE hq;obtain⟨a2,bHQ⟩:=cCE aGL;have:=Ie bAH aVD bHQ h3;subst this;rw[aVD]at bHQ;cases bHQ;rfl)
    have gY:(execOp a.eval o).run P w=.ok (.enter f (args.map a.eval).toArray) w:=by
     unfold execOp;rw[ho];simp only[resolve,hf,Deferred.ofValue,Sem.run_bind,Sem.run_pure,Result.andThen_ok,invoke];rw[<-Og];congr 1;simp
    intro next Q hn;unfold Oper.wp;rw[gY];simp only[Oper.upon_enter];refine aPC.mono ?_;rintro e w' ⟨vI,rfl,bBD,⟨g,aOT,aOU,aLD⟩,aGT⟩;simp only;obtain⟨Uc,aOM⟩:∃Uc,Uc=Hx.map (reBack us):=⟨_,rfl⟩;rw[<-aOM]at he;have aXR:Uc.length=Hx.length:=by rw[aOM];simp
    have bPJ:∀{i:Nat} {e:TypeId} {k:IntKind} {ns:List Int},Uc[i]?=some (.own e k ns)->Hx[i]?=some (.own e k ns):=by
     intro i e k ns hi;rw[aOM,cBI]at hi;obtain⟨d,h1,h2⟩:=Option.map_eq_some_iff.1 hi;rw[h1,aBY h2]
    obtain⟨Ao,bAP⟩:∃Ao,Ao=applyUps ub hp:=⟨_,rfl⟩;obtain⟨xA,Uz⟩:∃xA,xA=applyUps (takeAll keep id Uc).2 Ao:=⟨_,rfl⟩;obtain⟨ρ2,Gj⟩:∃ρ2:Nat->Nat,ρ2=fun j=>if id<=j/\j<id+8 then g (j-id)else ρ j:=⟨_,rfl⟩
    have Al:∀i,al i->¬(id<=i/\i<id+8):=fun i hi hr=>xH (i-id) (by omega) (by rw[show id+(i-id)=i by omega];exact hi)
    have wO:∀j,xA j=match (if id<=j then Uc[j-id]? else none)with
      |some (.own e k ns)=>if keep=true then some ⟨e,.ints k ns⟩else Ao j
      |_=>Ao j:=fun j=>by rw[Uz];exact takeAll_ups keep Uc id _ j
    have bMN:nodup (ub.map (·.1))=true:=by rw[bFT];exact bAH
    have bGY:∀q∈us,∃(e:TypeId) (k:IntKind) (ns:List Int) (j:Nat),Ao q.2=some ⟨e,.ints k ns⟩/\us[j]?=some q/\∃(o n:Nat),js[j]?=some (D.io e k ns o n):=by
     intro q hq;obtain⟨j,hj⟩:=cCE hq;obtain⟨e,k,ns,o,n,h1,h2⟩:=bFS j q hj;exact⟨e,k,ns,j,by rw[bAP];exact Kc bMN h2,hj,o,n,h1⟩
    have aOP:∀j,j ∉ us.map (·.2)->Ao j=hp j:=fun j hj=>by rw[bAP];exact tL (by rw[bFT];exact hj)
    have bOO:∀j b,Ao j=some b->al j:=by
     intro j b hb
     by_cases hj:j∈us.map (·.2)
     ·obtain⟨q,hq,rfl⟩:=List.mem_map.1 hj;obtain⟨e,kk,ns,off,n,h1,_⟩:=Kp q hq;exact h.alh _ _ h1
     ·rw[aOP j hj]at hb;exact h.alh _ _ hb
    have bGR:∀j b,Ao j=some b->ρ j<w.heap.size:=by
     intro j b hb
     by_cases hj:j∈us.map (·.2)
     ·obtain⟨q,hq,rfl⟩:=List.mem_map.1 hj;obtain⟨e,kk,ns,off,n,h1,_⟩:=Kp q hq;exact h.kB h1
     ·rw[aOP j hj]at hb;exact h.kB hb
    have Yw:∀j,¬al j->Ao j=none:=by
     intro j hj;cases hq:Ao j with
     |none=>rfl
     |some b=>exact absurd (bOO j b hq) hj
    have uK:∀j b,xA j=some b->¬al j->∃e k ns,id<=j/\Uc[j-id]?=some (.own e k ns)/\keep=true/\b=⟨e,.ints k ns⟩:=by
     intro j b hj tH;rw[wO]at hj;split at hj
     ·rename_i e k ns hq;split at hj
      ·rename_i hk;cases hj;split at hq
       ·exact⟨e,k,ns,‹_›,hq,hk,rfl⟩
       ·cases hq
      ·rw[Yw j tH]at hj;cases hj
     ·rw[Yw j tH]at hj;cases hj
    have aOL:∀i,al i->xA i=Ao i:=by
     intro i hi;rw[wO];split
     ·rename_i e k ns hq;split at hq
      ·exact absurd ⟨‹_›,by have:=aX hq;omega⟩ (Al i hi)
      ·cases hq
     ·rfl
    have Vd:=h.aQX (ρ':=ρ2) (hp':=xA) (al':=pA al id) bBD (fun b hb=>by
      obtain⟨q,hq,rfl⟩:=aYD b hb;obtain⟨e,kk,ns,off,n,h1,_⟩:=Kp q hq;exact⟨q.2,_,h1,rfl⟩) (fun _ h=>.inl h)
     (fun i hi=>by rw[Gj];simp only;rw[if_neg (Al i hi)])
     (fun i b' hi hb=>by
      rw[aOL i hi]at hb
      by_cases hj:i∈us.map (·.2)
      ·obtain⟨q,hq,rfl⟩:=List.mem_map.1 hj;obtain⟨e,kk,ns,off,n,h1,h2⟩:=Kp q hq;obtain⟨e',k',oH,j,h3,h4,o,m,h5⟩:=bGY q hq;rw[h3]at hb;cases hb;have bJU:(p :: ps)[j]?=some q.1:=by rw[<-Io];simp[h4]
       obtain⟨e1,k1,n1,o1,m1,e2,k2,n2,h6,h7,h8⟩:=aPA.io j q.1 bJU;rw[h2]at h6;cases h6;rw[h5]at h7;cases h7;have bHN:Wz w' (g0 q.1) (D.io e' k' oH 0 0):=aGT j q.1 _ bJU h5;have e0:g0 q.1=ρ q.2:=by rw[hg0];simp only;rw[(aOV q hq).2]
       rw[e0]at bHN;refine .inr ⟨⟨q.1,by rw[<-Io];exact List.mem_map.2 ⟨q,hq,rfl⟩,e0⟩,_,h1,⟨fun k ns he=>?_,fun cs he=>by cases he⟩,fun Y=>bHN⟩;cases he;exact⟨_,_,rfl,h8.symm⟩
      ·rw[aOP i hj]at hb;refine .inl ⟨fun hm=>?_,hb⟩;obtain⟨q,hq,h1⟩:=aYD _ hm;obtain⟨e,kk,ns,off,n,h2,_⟩:=Kp q hq;have:=h.inj _ _ _ _ h2 hb h1;subst this;exact hj (List.mem_map.2 ⟨q,hq,rfl⟩))
     (fun j b hj tH=>by
      obtain⟨e,k,ns,h1,h2,h3,rfl⟩:=uK j b hj tH;have kM:=aX h2;obtain⟨v,hv⟩:=bG (l:=vI) (i:=j-id) (by omega);obtain⟨arr,cap,_,Ed,hw,h4,bBF,h5,h6⟩:=aLD (j-id) _ v (bPJ h2) hv;have e1:ρ2 j=g (j-id):=by rw[Gj];simp only;rw[if_pos ⟨h1,by omega⟩]
      exact⟨.inr ⟨h1,by omega⟩,by rw[e1];exact Ed,fun Y=>⟨arr,by rw[e1];exact hw,cCA h4 bBF,h6⟩⟩)
     (fun i j b c hi hj bOQ bOP e=>by
      obtain⟨e1,k1,aAY,h1,h2,h3,_⟩:=uK i b hi bOQ;obtain⟨e2,k2,bVE,h4,h5,h6,_⟩:=uK j c hj bOP;have l1:=aX h2;have l2:=aX h5;rw[Gj]at e;simp only at e;rw[if_pos ⟨h1,by omega⟩,if_pos ⟨h4,by omega⟩]at e;have:=aOU _ _ _ _ (bPJ h2) (bPJ h5) rfl rfl e;omega)
    obtain⟨aCO,bNM⟩:=Vd;have bMT:∀{i:Nat} {d:D},Hx[i]?=some d->shares d=false:=by
     intro i d hi;cases hs:shares d with
     |false=>rfl
     |true =>
      have:Hx.any shares=true:=List.any_eq_true.2 ⟨d,cBN hi,hs⟩;rw[this]at bGJ;cases bGJ
    have Ux:∀(i:Nat) (d:D) (v:Value),Hx[i]?=some d->vI[i]?=some v->He ρ2 xA (XO X ρ2 xA) w' (takeIn keep (id+i) (reBack us d)).1 v/\∀j∈refsV (takeIn keep (id+i) (reBack us d)).1,pA al id j:=by
     intro i d v hi hv;have bNT:Uc[i]?=some (reBack us d):=by rw[aOM,cBI,hi];rfl
     have hg:=aLD i d v hi hv;have bXW:=aX hi;have aUQ:=bMT hi;cases d with
     |own e k ns =>
      obtain⟨arr,cap,rfl,Ed,hw,h4,bBF,h5,h6⟩:=hg;have bNE:¬X (g i):=fun hx=>by have:=Old.Yi (h.x0 _ hx);have:=h.below.size;omega
      cases keep with
      |true =>
       have e1:ρ2 (id+i)=g i:=by rw[Gj];simp only;rw[if_pos ⟨by omega,by omega⟩];congr 1;omega
       refine⟨⟨cap,by rw[e1],h4,fun blk k1 aAY hb hk=>?_,fun blk cs hb hk=>?_⟩,fun j hj=>?_⟩
       rotate_left
       ·rw[wO,aQ,show id+i-id=i by omega,bNT]at hb;simp only[reBack,if_true]at hb;cases hb;cases hk
       rotate_left
       ·rw[wO,aQ,show id+i-id=i by omega,bNT]at hb;simp only[reBack,if_true]at hb;cases hb;cases hk;exact⟨rfl,h5,by rw[e1];unfold mM;rw[hw];exact bBF⟩
       ·simp only[reBack,takeIn,cond_true,refsV,refsL,cBW]at hj;subst hj;exact .inr ⟨by omega,by omega⟩
      |false =>
       refine⟨⟨_,cap,rfl,h4,fun j n hj=>⟨g i,0,rfl,(Array.getElem?_eq_some_iff.1 hw).1,?_,?_⟩⟩,fun j hj=>by simp[reBack,takeIn,refsV,refsL]at hj⟩
       ·rintro (hx |⟨j',bl,h7,h8⟩)
        ·exact bNE hx
        ·by_cases Qy:al j'
         ·rw[aOL j' Qy]at h7;have:=bGR _ _ h7;have e2:ρ2 j'=ρ j':=by rw[Gj];simp only;rw[if_neg (Al j' Qy)]
          omega
         ·obtain⟨_,_,_,_,_,hk,_⟩:=uK j' bl h7 Qy;cases hk
       ·rw[cBG,cell_of_row w' (g i) j arr e (0,0) hw];exact h6 j n hj
     |s x=>exact⟨mY.any (d:=.s x) aUQ rfl hg,fun j hj=>by simp[reBack,takeIn,refsV,refsL]at hj⟩
     |rows sz n f=>cases aUQ
     |agg cs=>exact⟨mY.any (d:=.agg cs) aUQ rfl hg,fun j hj=>by simp[reBack,takeIn,refsV]at hj⟩
     |io=>cases aUQ
     |back p0 off n =>
      obtain⟨j,e,k,ns,h1,h2,h3⟩:=hg;obtain⟨q,hq,rfl,h4⟩:=pE p0 (cBN h1);have bNR:idAt us q.1=q.2:=(aGI (fun q hq=>(aOV q hq).2) hq).trans h4;obtain⟨e0,kk,ns0,off0,n0,hb0,_⟩:=Kp q hq;have bBB:=h.alh _ _ hb0;have e1:ρ2 q.2=g0 q.1:=by rw[Gj,hg0];simp only;rw[if_neg (Al _ bBB),h4]
      obtain⟨o',cap,h5,h6,h7,h8,h9,bTI,bZZ⟩:=h3;simp only[reBack,bNR,takeIn];refine⟨⟨o',cap,by rw[e1];exact h5,h6,h7,h8,fun blk k1 aAY hb hk=>?_⟩,fun j hj=>?_⟩
      ·rw[aOL _ bBB]at hb;obtain⟨e',k',oH,j',bZY,bZX,o,m,bZW⟩:=bGY q hq;rw[bZY]at hb;cases hb;cases hk;have bJU:(p :: ps)[j']?=some q.1:=by rw[<-Io];simp[bZX]
       have bXR:j=j':=by
        have f1:((us.map (·.1)).map gid)[j]?=some q.2:=by rw[Io,cBI,h1];simp[h4]
        have f2:((us.map (·.1)).map gid)[j']?=some q.2:=by rw[Io,cBI,bJU];simp[h4]
        have f3:(us.map (·.1)).map gid=us.map (·.2):=by
         rw[List.map_map];exact cCP fun q hq=>(aOV q hq).2
        have bGL:nodup ((us.map (·.2)).map fun x=>x)=true:=by rw[List.map_id'];exact bAH
        rw[f3]at f1 f2;exact Ie bGL f1 f2 rfl
       subst bXR;rw[bZW]at h2;cases h2;exact⟨h9,bTI,by rw[e1];exact bZZ⟩
      ·simp only[refsV,refsL,cBW]at hj;subst hj;exact .inl bBB
    have Jy:(takeAll keep id Uc).1.length=vI.length:=by rw[Au,aXR];exact aOT
    have hval:∀(i:Nat) (y:V) (v:Value),(takeAll keep id Uc).1[i]?=some y->vI[i]?=some v->He ρ2 xA (XO X ρ2 xA) w' y v/\∀j∈refsV y,pA al id j:=by
     intro i y v hy hv;obtain⟨d,Ee⟩:=bG (l:=Hx) (i:=i) (by have:=aX hv;omega);rw[Av keep Uc id i (reBack us d) (by rw[aOM,cBI,Ee];rfl)]at hy;cases hy;exact Ux i d v Ee hv
    have qA:∀(y:A),xW ρ2 xA (XO X ρ2 xA) w' y (resV vI)->(∀j∈refs y,pA al id j)->some (y,ub ++ (takeAll keep id Uc).2)=some (x,u)->next (a.put o.dst (resV vI)) w':=by
     intro y hy bME heq;obtain⟨e1,e2⟩:=Prod.mk.inj (Option.some.inj heq);refine hn ρ2 (resV vI) w' ?_;rw[<-e1,<-e2,lV,<-bAP,<-Uz];exact aCO.pure hd hy bME
    match bFQ:vI,Jy,hval,qA with
    | [v],Jy,hval,qA =>
     match ht:(takeAll keep id Uc).1,Jy with
     | [y],_ =>
      rw[ht]at he hval;obtain⟨h1,h2⟩:=hval 0 y v rfl rfl;exact qA (.v y) h1 h2 he
    | [],Jy,hval,qA =>
     match ht:(takeAll keep id Uc).1,Jy with
     | [],_ =>
      rw[ht]at he;exact qA (.Mf []) ⟨#[],rfl,rfl,fun i y v hy=>by simp at hy⟩ (by simp[refs]) he
    |v1 :: v2 :: vr,Jy,hval,qA =>
     match ht:(takeAll keep id Uc).1,Jy with
     |y1 :: y2 :: yr,Jy =>
      rw[ht]at he hval;refine qA (.Mf (y1 :: y2 :: yr)) ⟨(v1 :: v2 :: vr).toArray,rfl,by simpa using Jy,fun i y v hy hv=>(hval i y v hy (by simpa using hv)).1⟩ ?_ he;intro j hj;obtain⟨y,hy,hj⟩:=List.mem_flatMap.1 hj;obtain⟨i,hi⟩:=cCE hy;obtain⟨v,hv⟩:=bG (l:=v1 :: v2 :: vr) (i:=i) (by have:=aX hi;omega);exact(hval i y v hi hv).2 j hj
theorem Ta(h:jY E X w0 ρ al fr hp a w)(hd:jX E.nt o=true)(hC:kX P E)(xH:∀j,j<8->¬al (id+j)){f:FuncId}{keep:Bool}{as:List A}{vals:List Value}(tH:as.length=vals.length)
  (bYU:∀(i:Nat) (y:A) (v:Value),as[i]?=some y->vals[i]?=some v->xW ρ hp (XO X ρ hp) w y v) (gY:rB P f->(execOp a.eval o).run P w=.ok (.enter f vals.toArray) w)
  (bNP:E.ioF f=[]) (he:callK E id keep f as hp (fun a u=>some (a,u))=some (x,u)):Pp P E X w0 al fr hp a w o id x u:=by
 simp only[callK,Fx]at he;split at he
 ·cases he
 ·rename_i ds bDT;split at he
  ·cases he
  ·rename_i gd rs bFZ;obtain⟨bDQ,he⟩:=Ok he;cases Yz:cBH rs.length 8 with
   |false=>rw[Yz]at he;cases he
   |true =>
   rw[Yz]at he;simp only[cond_true]at he;have Yz:rs.length<=8:=cDC Yz;obtain⟨aPA,Og⟩:=hC.c f ds gd rs bNP bFZ bDQ;obtain⟨U,hU⟩:∃U,U=aDT as:=⟨_,rfl⟩;have aSP:Cons U:=by rw[hU];exact aAF _
   have hY:∀b,XO X ρ (applyUps U hp) b->b<w.heap.size:=by
    rintro b (hb |⟨i,bl,h1,h2⟩)
    ·have:=Old.Yi (h.x0 b hb);have:=h.below.size;omega
    ·have:=h.kB (iV aSP h1);omega
   have hG:GlobOk E.glob (XO X ρ (applyUps U hp)) w:=by
    intro g k ns hg;obtain⟨h1,h2,h3⟩:=h.Vf g k ns hg;exact⟨h1,fun ho=>h2 (ho.imp (fun h=>h) (Own.of_cons aSP)),h3.later (iT.cons aSP)⟩
   have bDU:ds.length=vals.length:=by have:=Bh bDT;omega
   have aPC:=aPA (XO X ρ (applyUps U hp)) w vals hY hG bDU (fun i d v hi hv=>by
    obtain⟨y,aOH,aZX⟩:=Yr bDT i d hi;refine Hq h aSP (bYU i y v aOH hv) (fun i hi=>?_) aZX;rw[hU];exact aCH (cBN aOH) hi)
   have gY:=gY Og;intro next Q hn;unfold Oper.wp;rw[gY];simp only[Oper.upon_enter];refine aPC.mono ?_;rintro e w' ⟨vI,rfl,bBD,g,aOT,aOU,aLD⟩;simp only;obtain⟨U',bSU,bZA⟩:∃U',Cons U'/\(bif rs.any shares then(List.flatMap refs as).map fun i=>((i,none):Nat×Option kY)else [])=U'/\(∀i,i∈U'.map (·.1)->i∈U.map (·.1)):=by
    cases bMU:rs.any shares with
    |true=>exact⟨U,aSP,by rw[hU];rfl,fun _ h=>h⟩
    |false=>exact⟨[],(fun p hp=>by cases hp),rfl,fun i hi=>by cases hi⟩
   obtain⟨bBC,hUsub⟩:=bZA;rw[bBC]at he;have h0:=h.cons bSU;obtain⟨xA,Uz⟩:∃xA,xA=applyUps (takeAll keep id rs).2 (applyUps U' hp):=⟨_,rfl⟩;obtain⟨ρ2,Gj⟩:∃ρ2:Nat->Nat,ρ2=fun j=>if id<=j/\j<id+8 then g (j-id)else ρ j:=⟨_,rfl⟩
   have Al:∀i,al i->¬(id<=i/\i<id+8):=fun i hi hr=>xH (i-id) (by omega) (by rw[show id+(i-id)=i by omega];exact hi)
   have wO:∀j,xA j=match (if id<=j then rs[j-id]? else none)with
     |some (.own e k ns)=>if keep=true then some ⟨e,.ints k ns⟩else applyUps U' hp j
     |_=>applyUps U' hp j:=fun j=>by rw[Uz];exact takeAll_ups keep rs id _ j
   have Yw:∀j,¬al j->applyUps U' hp j=none:=by
    intro j hj;cases hq:applyUps U' hp j with
    |none=>rfl
    |some b=>exact absurd (h0.alh j b hq) hj
   have uK:∀j b,xA j=some b->¬al j->∃e k ns,id<=j/\rs[j-id]?=some (.own e k ns)/\keep=true/\b=⟨e,.ints k ns⟩:=by
    intro j b hj tH;rw[wO]at hj;split at hj
    ·rename_i e k ns hq;split at hj
     ·rename_i hk;cases hj;split at hq
      ·exact⟨e,k,ns,‹_›,hq,hk,rfl⟩
      ·cases hq
     ·rw[Yw j tH]at hj;cases hj
    ·rw[Yw j tH]at hj;cases hj
   have Vd:=h0.called (ρ':=ρ2) (hp':=xA) (al':=pA al id) bBD (fun _ h=>.inl h)
    (fun i hi=>by
     refine⟨by rw[Gj];simp only;rw[if_neg (Al i hi)],?_⟩;rw[wO];split
     ·rename_i e k ns hq;split at hq
      ·exact absurd ⟨‹_›,by have:=aX hq;omega⟩ (Al i hi)
      ·cases hq
     ·rfl)
    (fun j b hj tH=>by
     obtain⟨e,k,ns,h1,h2,h3,rfl⟩:=uK j b hj tH;have kM:=aX h2;obtain⟨v,hv⟩:=bG (l:=vI) (i:=j-id) (by omega);obtain⟨arr,cap,_,Ed,hw,h4,bBF,h5,h6⟩:=aLD (j-id) _ v h2 hv;have e1:ρ2 j=g (j-id):=by rw[Gj];simp only;rw[if_pos ⟨h1,by omega⟩]
     exact⟨.inr ⟨h1,by omega⟩,by rw[e1];exact Ed,fun Y=>⟨arr,by rw[e1];exact hw,cCA h4 bBF,h6⟩⟩)
    (fun i j b c hi hj bOQ bOP e=>by
     obtain⟨e1,k1,aAY,h1,h2,h3,_⟩:=uK i b hi bOQ;obtain⟨e2,k2,bVE,h4,h5,h6,_⟩:=uK j c hj bOP;have l1:=aX h2;have l2:=aX h5;rw[Gj]at e;simp only at e;rw[if_pos ⟨h1,by omega⟩,if_pos ⟨h4,by omega⟩]at e;have:=aOU _ _ _ _ h2 h5 rfl rfl e;omega)
   obtain⟨aCO,bNM⟩:=Vd;have bAV:∀{i:Nat} (d:D) (v:Value),rs[i]?=some d->lH d=false->mY (fun b=>XO X ρ (applyUps U hp) b\/∃(j:Nat) (d':D),rs[j]?=some d'/\lH d'=true/\g j=b) w' d v->mY (XO X ρ2 xA) w' d v:=by
    intro i d v hi ho hr;cases bMU:shares d with
    |false=>exact hr.any bMU ho
    |true =>
     have Gk:rs.any shares=true:=List.any_eq_true.2 ⟨d,cBN hi,bMU⟩;have bZC:U'=U:=by
      rw[Gk]at bBC;rw[<-bBC,hU];rfl
     refine hr.later ⟨cBE _,fun b _ hx=>⟨rfl,fun hb=>hx ?_⟩⟩;rcases hb with hb |⟨j,bl,h7,h8⟩
     ·exact .inl (.inl hb)
     ·by_cases Qy:al j
      ·have h9:applyUps U' hp j=some bl:=by
        rw[<-h7,wO];split
        ·rename_i e k ns hq;split at hq
         ·exact absurd ⟨‹_›,by have:=aX hq;omega⟩ (Al j Qy)
         ·cases hq
        ·rfl
       have e2:ρ2 j=ρ j:=by rw[Gj];simp only;rw[if_neg (Al j Qy)]
       exact .inl (.inr ⟨j,bl,by rw[<-bZC];exact h9,by rw[<-e2];exact h8⟩)
      ·obtain⟨e,k,ns,h1,h2,h3,rfl⟩:=uK j bl h7 Qy;have kM:=aX h2;refine .inr ⟨j-id,_,h2,rfl,?_⟩;rw[Gj]at h8;simp only at h8;rw[if_pos ⟨h1,by omega⟩]at h8;exact h8
   have Ux:∀(i:Nat) (d:D) (v:Value),rs[i]?=some d->vI[i]?=some v->He ρ2 xA (XO X ρ2 xA) w' (takeIn keep (id+i) d).1 v/\∀j∈refsV (takeIn keep (id+i) d).1,pA al id j:=by
    intro i d v hi hv;have hg:=aLD i d v hi hv;have bXW:=aX hi;cases d with
    |own e k ns =>
     obtain⟨arr,cap,rfl,Ed,hw,h4,bBF,h5,h6⟩:=hg;have bNE:¬X (g i):=fun hx=>by have:=Old.Yi (h.x0 _ hx);have:=h.below.size;omega
     cases keep with
     |true =>
      have e1:ρ2 (id+i)=g i:=by rw[Gj];simp only;rw[if_pos ⟨by omega,by omega⟩];congr 1;omega
      refine⟨⟨cap,by rw[e1],h4,fun blk k1 aAY hb hk=>?_,fun blk cs hb hk=>?_⟩,fun j hj=>?_⟩
      rotate_left
      ·rw[wO,aQ,show id+i-id=i by omega,hi]at hb;simp only[if_true]at hb;cases hb;cases hk
      rotate_left
      ·rw[wO,aQ,show id+i-id=i by omega,hi]at hb;simp only[if_true]at hb;cases hb;cases hk;exact⟨rfl,h5,by rw[e1];unfold mM;rw[hw];exact bBF⟩
      ·simp only[takeIn,cond_true,refsV,refsL,cBW]at hj;subst hj;exact .inr ⟨by omega,by omega⟩
     |false =>
      refine⟨⟨_,cap,rfl,h4,fun j n hj=>⟨g i,0,rfl,(Array.getElem?_eq_some_iff.1 hw).1,?_,?_⟩⟩,fun j hj=>by simp[takeIn,refsV,refsL]at hj⟩
      ·rintro (hx |⟨j',bl,h7,h8⟩)
       ·exact bNE hx
       ·by_cases Qy:al j'
        ·have:xA j'=applyUps U' hp j':=by
          rw[wO];split
          ·simp
          ·rfl
         rw[this]at h7;have:=h0.kB h7;have e2:ρ2 j'=ρ j':=by rw[Gj];simp only;rw[if_neg (Al j' Qy)]
         omega
        ·obtain⟨_,_,_,_,_,hk,_⟩:=uK j' bl h7 Qy;cases hk
      ·rw[cBG,cell_of_row w' (g i) j arr e (0,0) hw];exact h6 j n hj
    |s x=>exact⟨bAV _ v hi rfl hg,fun j hj=>by simp[takeIn,refsV,refsL]at hj⟩
    |rows sz n f=>exact⟨bAV _ v hi rfl hg,fun j hj=>by simp[takeIn,refsV,refsL]at hj⟩
    |agg cs=>exact⟨bAV _ v hi rfl hg,fun j hj=>by simp[takeIn,refsV]at hj⟩
    |io=>exact hg.elim
    |back=>exact hg.elim
   have Jy:(takeAll keep id rs).1.length=vI.length:=by rw[Au];exact aOT
   have hval:∀(i:Nat) (y:V) (v:Value),(takeAll keep id rs).1[i]?=some y->vI[i]?=some v->He ρ2 xA (XO X ρ2 xA) w' y v/\∀j∈refsV y,pA al id j:=by
    intro i y v hy hv;obtain⟨d,Ee⟩:=bG (l:=rs) (i:=i) (by have:=aX hv;omega);rw[Av keep rs id i d Ee]at hy;cases hy;exact Ux i d v Ee hv
   have qA:∀(y:A),xW ρ2 xA (XO X ρ2 xA) w' y (resV vI)->(∀j∈refs y,pA al id j)->some (y,U' ++ (takeAll keep id rs).2)=some (x,u)->next (a.put o.dst (resV vI)) w':=by
    intro y hy bME heq;obtain⟨e1,e2⟩:=Prod.mk.inj (Option.some.inj heq);refine hn ρ2 (resV vI) w' ?_;rw[<-e1,<-e2,lV,<-Uz];exact aCO.pure hd hy bME
   match bFQ:vI,Jy,hval,qA with
   | [v],Jy,hval,qA =>
    match ht:(takeAll keep id rs).1,Jy with
    | [y],_ =>
     rw[ht]at he hval;obtain⟨h1,h2⟩:=hval 0 y v rfl rfl;exact qA (.v y) h1 h2 he
   | [],Jy,hval,qA =>
    match ht:(takeAll keep id rs).1,Jy with
    | [],_ =>
     rw[ht]at he;exact qA (.Mf []) ⟨#[],rfl,rfl,fun i y v hy=>by simp at hy⟩ (by simp[refs]) he
   |v1 :: v2 :: vr,Jy,hval,qA =>
    match ht:(takeAll keep id rs).1,Jy with
    |y1 :: y2 :: yr,Jy =>
     rw[ht]at he hval;refine qA (.Mf (y1 :: y2 :: yr)) ⟨(v1 :: v2 :: vr).toArray,rfl,by simpa using Jy,fun i y v hy hv=>(hval i y v hy (by simpa using hv)).1⟩ ?_ he;intro j hj;obtain⟨y,hy,hj⟩:=List.mem_flatMap.1 hj;obtain⟨i,hi⟩:=cCE hy;obtain⟨v,hv⟩:=bG (l:=v1 :: v2 :: vr) (i:=i) (by have:=aX hi;omega);exact(hval i y v hi hv).2 j hj
theorem aQB(h:jY E X w0 ρ al fr hp a w)(hd:jX E.nt o=true)(hC:kX P E)(xH:∀j,j<8->¬al (id+j)){fo:Operand}{args:Array Operand}{yQ:Array TypeId}(ho:o.op=.call ⟨.value fo,args,yQ⟩)(he:rU E id o (evA E fr) hp=some (x,u)):Pp P E X w0 al fr hp a w o id x u:=by
 obtain⟨args⟩:=args;have hargs:∀(i:Nat) (y:A) (v:Value),(args.map (evA E fr))[i]?=some y->(args.map a.eval)[i]?=some v->xW ρ hp (XO X ρ hp) w y v:=by
  intro i y v hy hv;simp only[cBI,cCG]at hy hv;obtain⟨z,hz,rfl⟩:=hy;obtain⟨z',aZW,rfl⟩:=hv;rw[hz]at aZW;cases aZW;exact(h.ev z).1
 unfold rU effK at he;rw[ho]at he;simp only at he;split at he
 ·rename_i f aUT;have hf:a.eval fo=.func (.func f) #[] #[]:=by
   have hz:=(h.ev fo).1;unfold funOf at aUT;split at aUT
   ·rename_i f' jT;cases aUT;rw[jT]at hz;exact hz.1
   ·cases aUT
  split at he
  ·rename_i gx vs bHO;obtain⟨bYA,he⟩:=Ok he;exact(aVR h hd hC hf ho bHO bYA he).step
  split at he
  case h_2=>exact eff_callIO h hd hC xH hf ho ‹_› he
  refine Ta h hd hC xH (by simp) hargs (fun Og=>?_) ‹_› he;unfold execOp;rw[ho];simp only[resolve,hf,Deferred.ofValue,Sem.run_bind,Sem.run_pure,Result.andThen_ok,invoke];rw[<-Og];congr 1;simp
 ·split at he
  case h_2=>cases he
  rename_i f xs aUT;split at he
  case h_2=>cases he
  obtain⟨ps,hf,So,Io⟩:∃ps:List Value,a.eval fo=.func (.func f) #[] ps.toArray/\Tm (XO X ρ hp) w xs ps:=by
   have hz:=(h.ev fo).1;unfold cloOf at aUT;split at aUT
   ·rename_i f' bUG jT;cases aUT;rw[jT]at hz;exact hz
   ·cases aUT
  refine Ta h hd hC xH (vals:=args.map a.eval ++ ps) (by simp[So]) (fun i y v hy hv=>?_) (fun Og=>?_) ‹_› he
  ·by_cases hi:i<args.length
   ·rw[cCK (by simpa using hi)]at hy hv;exact hargs i y v hy hv
   ·rw[cCL (by simpa using cDY hi)]at hy hv;simp only[cCS,cBI,cCG]at hy hv;obtain⟨z,hz,rfl⟩:=hy;exact Io _ z v hz hv
  ·unfold execOp;rw[ho];simp only[resolve,hf,Deferred.ofValue,Sem.run_bind,Sem.run_pure,Result.andThen_ok,invoke];rw[<-Og];congr 1;simp
theorem aBP(h:jY E X w0 ρ al fr hp a w)(hd:jX E.nt o=true)(hT:pK P E.T)(hC:kX P E)(xH:∀j,j<8->¬al (id+j))(he:rU E id o (evA E fr) hp=some (x,u)):Pp P E X w0 al fr hp a w o id x u:=by
 have Df:=he;unfold rU effK at he;split at he
 ·exact(Zp h hd (.inl ‹_›) Df).step
 ·exact(Zp h hd (.inr ‹_›) Df).step
 ·exact(aPY h hd ‹_› Df).step
 ·exact(aJS h hd hT xH ‹_› Df).step
 ·exact(aVS h hd xH ‹_› Df).step
 ·exact(aJQ h hd hT ‹_› Df).step
 ·exact(Ou h hd hT xH ‹_› Df).step
 ·exact(aPZ h hd hT ‹_› Df).step
 ·exact(Vn h hd ‹_› Df).step
 ·exact(aJM h hd hT ‹_› Df).step
 ·exact(aJR h hd hT ‹_› Df).step
 ·exact(aPX h hd ‹_› Df).step
 ·exact(Zr h hd hT ‹_› Df).step
 ·exact(Rd h hd hT xH ‹_› Df).step
 ·exact(aJN h hd hT ‹_› Df).step
 ·exact(Rf h hd hT ‹_› Df).step
 ·exact(aJP h hd hT ‹_› Df).step
 ·exact(Re h hd hT ‹_› Df).step
 ·exact(aJO h hd hT ‹_› Df).step
 ·exact(Zq h hd ‹_› Df).step
 ·exact aQB h hd hC xH ‹_› Df
 ·rename_i b args yQ ho;have hb:=he;unfold builtinK at hb;split at hb
  ·exact(aVQ h hd hT ho Df).step
  ·exact(Ot h hd (.inl rfl) ho Df).step
  ·exact(Ot h hd (.inr rfl) ho Df).step
  ·exact(aDH h hd hT xH ho Df).step
  ·exact(aQA h hd hT ho Df).step
  ·cases hb
 ·cases he
end
end AI
namespace AI
open Go Go.RowKit
section
variable {hp hp':Nat->Option kY}
theorem Bu{x:A}(h:∀i∈refs x,hp i=hp' i):cellsOf hp x=cellsOf hp' x:=by
 unfold cellsOf;split
 ·rfl
 ·rfl
 ·rw[h _ (by simp[refs,refsV,refsL])]
 ·rw[h _ (by simp[refs,refsV,refsL])]
 ·rfl
theorem aES{x:A}(h:∀i∈refs x,hp i=hp' i):toD hp x=toD hp' x:=by
 unfold toD;split
 ·rfl
 ·rfl
 ·rfl
 ·rw[h _ (by simp[refs,refsV,refsL])]
 ·rw[h _ (by simp[refs,refsV,refsL])]
 ·rfl
theorem Nv{k:IntKind}{x:A}(h:∀i∈refs x,hp i=hp' i):intsOf hp k x=intsOf hp' k x:=by
 unfold intsOf;split
 ·rfl
 ·rfl
 ·rw[h _ (by simp[refs,refsV,refsL])]
 ·rw[h _ (by simp[refs,refsV,refsL])]
 ·rfl
theorem Gi{R:Type}{t:TI}{rJ:Nat}{x:A}{n:Int}{K:A->Option R}(h:∀i∈refs x,hp i=hp' i):idxK hp t rJ x n K=idxK hp' t rJ x n K:=by
 unfold idxK;split
 ·rfl
 ·rw[h _ (by simp[refs,refsV,refsL])]
 ·rw[h _ (by simp[refs,refsV,refsL])]
 ·rfl
 ·rfl
 ·rfl
 ·rfl
theorem aOE{R:Type}{sh:Bool}{t:TI}{rJ:Nat}{x:A}{n:Int}{K:A->Option R}(h:∀i∈refs x,hp i=hp' i):idxS sh hp t rJ x n K=idxS sh hp' t rJ x n K:=by
 unfold idxS;split
 ·rw[h _ (by simp[refs,refsV,refsL])];simp only[Gi h]
 ·exact Gi h
theorem Ur{xs:List A}(h:∀x∈xs,∀i∈refs x,hp i=hp' i):xs.mapM (toD hp)=xs.mapM (toD hp'):=by
 induction xs with
 |nil=>rfl
 |cons x xs ih=>rw[cCN,cCN,aES (h x (by simp)),ih (fun y hy=>h y (by simp[hy]))]
theorem Ir{R:Type}{place:Nat->Option (Nat×Nat)}{ev Qo:Operand->A}{parts:List (Nat×Operand)}{cs:List S}{u:rL}{K:List S->rL->Option R}
  (he:∀p∈parts,ev p.2=Qo p.2) (h:∀p∈parts,∀i∈refs (ev p.2),hp i=hp' i):fillK hp place ev parts cs u K=fillK hp' place Qo parts cs u K:=by
 induction parts generalizing cs u with
 |nil=>rfl
 |cons p rest ih =>
  obtain⟨i,y⟩:=p;have e1:ev y=Qo y:=he (i,y) (by simp);have e2:cellsOf hp (ev y)=cellsOf hp' (Qo y):=by rw[Bu (h (i,y) (by simp)),e1]
  simp only[fillK,e2];split
  ·split
   ·exact ih (fun p hp=>he p (by simp[hp])) (fun p hp=>h p (by simp[hp]))
   ·rfl
  ·rfl
end
theorem Pb{hp hp':Nat->Option kY}:∀{l:List A},(∀x∈l,∀i∈refs x,hp i=hp' i)->capsOf hp l=capsOf hp' l
 | [],_=>rfl
 |y :: l,h=>by
  have ih:=Pb (l:=l) fun x hx=>h x (cBP _ hx)
  cases y with
  |v x=>cases x with
   |one lx=>cases lx with
    |ptr i o=>cases o with
     |zero =>
      have e:=h (.v (.one (.ptr i 0))) (cBL ..) i (List.mem_singleton.2 rfl);simp only[capsOf,e,ih]
     |succ o=>rfl
    |_=>rfl
   |agg=>rfl
  |Mf=>rfl
  |any=>rfl
theorem Th{R:Type}{E:Env}{id:Nat}{keep:Bool}{f:FuncId}{args:List A}{hp hp':Nat->Option kY}{K:A->rL->Option R}(h:∀x∈args,∀i∈refs x,hp i=hp' i) :
  callK E id keep f args hp K=callK E id keep f args hp' K:=by
 unfold callK;rw[Ur h]
theorem aMD{hp hp':Nat->Option kY}{x:A}(h:∀i∈refs x,hp i=hp' i):toIO hp x=toIO hp' x:=by
 unfold toIO;split
 ·rw[h _ (by simp[refs,refsV,refsL])]
 ·rw[h _ (by simp[refs,refsV,refsL])]
 ·rfl
theorem Pk{hp hp':Nat->Option kY}(ps:List Nat):∀{args:List A} (i:Nat),(∀x∈args,∀i∈refs x,hp i=hp' i)->argsIO ps hp i args=argsIO ps hp' i args
 | [],_,_=>rfl
 |x :: args,i,h=>by
  unfold argsIO;rw[aMD (h x (by simp)),aES (h x (by simp)),Pk ps (i+1) (fun y hy=>h y (by simp[hy]))]
theorem aDO{R:Type}{E:Env}{ps:List Nat}{id:Nat}{keep:Bool}{f:FuncId}{args:List A}{hp hp':Nat->Option kY}{K:A->rL->Option R}(h:∀x∈args,∀i∈refs x,hp i=hp' i) :
  callIO E ps id keep f args hp K=callIO E ps id keep f args hp' K:=by
 unfold callIO;rw[Pk ps 0 h]
theorem Wb{R:Type}{n0 id:Nat}{e:TypeId}{te:TI}{s x:A}{hp hp':Nat->Option kY}{K:A->rL->Option R}(hs:∀i∈refs s,hp i=hp' i)(hx:∀i∈refs x,hp i=hp' i) :
  appCells n0 id e te s x hp K=appCells n0 id e te s x hp' K:=by
 unfold appCells;split
 ·rw[hx _ (by simp[refs,refsV,refsL])];split
  ·split
   ·split
    ·rw[hs _ (by simp[refs,refsV,refsL])]
    ·rfl
    ·rfl
   ·rfl
  ·rfl
 ·rfl
theorem Vv{R:Type}{E:Env}{id:Nat}{b:Builtin}{args:List A}{yQ:List TypeId}{hp hp':Nat->Option kY}{K:A->rL->Option R}(h:∀x∈args,∀i∈refs x,hp i=hp' i) :
  builtinK E id b args yQ hp K=builtinK E id b args yQ hp' K:=by
 unfold builtinK;split
 ·rfl
 ·rfl
 ·rfl
 ·rename_i s x t t';split
  ·split
   ·split
    ·split
     ·rw[Nv (h x (by simp))];split
      ·rename_i i n ms hq;rw[h (.v (.one (.buf i n))) (by simp) i (by simp[refs,refsV,refsL])]
      ·rfl
      ·rfl
     ·rfl
    ·exact Wb (h s (by simp)) (h x (by simp))
    ·rfl
   ·rfl
  ·rfl
 ·rename_i d s t t';split
  ·split
   ·rw[Nv (h s (by simp))];split
    ·rename_i i n ms hq;rw[h (.v (.one (.buf i n))) (by simp) i (by simp[refs,refsV,refsL])]
    ·rename_i i off n ms hq;rw[h (.v (.one (.view i off n))) (by simp) i (by simp[refs,refsV,refsL])]
    ·rfl
   ·rfl
  ·rfl
 ·rfl
theorem xO{α β:Type}{f g:α->β}{o:Option α}(h:∀x,o=some x->f x=g x):o.map f=o.map g:=by
 cases o with
 |none=>rfl
 |some x=>simp[h x rfl]
theorem aQC{R:Type}{E:Env}{id:Nat}{o:Oper}{ev Qo:Operand->A}{hp hp':Nat->Option kY}{K:A->rL->Option R}(he:∀x,x∈o.op.operands.toList->ev x=Qo x)(h:∀x,x∈o.op.operands.toList->∀i∈refs (ev x),hp i=hp' i) :
  effK E id o ev hp K=effK E id o Qo hp' K:=by
 unfold effK;split <;> rename_i ho <;> (try rw[ho]at he h)
 ·rw[he _ (by simp[Op.operands])]
 ·rw[he _ (by simp[Op.operands])]
 ·rw[he _ (by simp[Op.operands]),he _ (by simp[Op.operands]),he _ (by simp[Op.operands])]
 ·rw[Bu (h _ (by simp[Op.operands])),he _ (by simp[Op.operands])]
 ·have e1:∀p∈(‹Array (Nat×Operand)›).toList,p.2∈(‹Array (Nat×Operand)›).toList.map (·.2):=fun p hp=>List.mem_map.2 ⟨p,hp,rfl⟩
  split
  ·exact Ir (fun p hp=>he _ (by simpa [Op.operands] using e1 p hp)) (fun p hp=>h _ (by simpa [Op.operands] using e1 p hp))
  ·exact Ir (fun p hp=>he _ (by simpa [Op.operands] using e1 p hp)) (fun p hp=>h _ (by simpa [Op.operands] using e1 p hp))
  ·rfl
 ·have e1:∀p∈(‹Array (Nat×Operand)›).toList,p.2∈(‹Array (Nat×Operand)›).toList.map (·.2):=fun p hp=>List.mem_map.2 ⟨p,hp,rfl⟩
  split
  ·split
   ·split
    ·exact Ir (fun p hp=>he _ (by simpa [Op.operands] using e1 p hp)) (fun p hp=>h _ (by simpa [Op.operands] using e1 p hp))
    ·rfl
   ·rfl
  ·rfl
 ·rename_i t y;have e1:ev y=Qo y:=he _ (by simp[Op.operands]);have e2:=h y (by simp[Op.operands]);split
  ·rw[<-e1];split
   ·rename_i i off jT;rw[e2 i (by rw[jT];simp[refs,refsV,refsL])]
   ·rename_i i j jT;rw[e2 i (by rw[jT];simp[refs,refsV,refsL])]
   ·rfl
   ·rfl
   ·rfl
  ·rfl
 ·rename_i f Iw;have e1:Iw.toList.map ev=Iw.toList.map Qo:=cCP fun x hx=>he x (by simpa [Op.operands] using hx)
  rw[Pb (hp':=hp') (by
   intro x hx i hi;obtain⟨y,hy,rfl⟩:=List.mem_map.1 hx;exact h y (by simpa [Op.operands] using hy) i hi),e1]
 ·rename_i t y z;have e1:ev y=Qo y:=he _ (by simp[Op.operands]);have e3:ev z=Qo z:=he _ (by simp[Op.operands]);have e2:=h y (by simp[Op.operands]);have e4:cellsOf hp (ev z)=cellsOf hp' (Qo z):=by rw[Bu (h z (by simp[Op.operands])),e3]
  split
  ·rw[<-e1,e4,<-e3];split
   ·rename_i i off jT;rw[e2 i (by rw[jT];simp[refs,refsV,refsL])]
   ·rename_i i j jT;rw[e2 i (by rw[jT];simp[refs,refsV,refsL])]
   ·rfl
  ·rfl
 ·rw[he _ (by simp[Op.operands]),he _ (by simp[Op.operands])]
 ·rw[he _ (by simp[Op.operands])]
 ·rw[he _ (by simp[Op.operands])]
 ·rw[he _ (by simp[Op.operands]),he _ (by simp[Op.operands])]
 ·rename_i t y lo hi mx;have e1:ev y=Qo y:=he _ (by simp[Op.operands]);have e2:lo.map ev=lo.map Qo:=xO fun x hx=>he x (by subst hx;simp[Op.operands])
  have e3:hi.map ev=hi.map Qo:=xO fun x hx=>he x (by subst hx;simp[Op.operands])
  have e4:mx.map ev=mx.map Qo:=xO fun x hx=>he x (by subst hx;simp[Op.operands])
  rw[e1,e2,e3,e4]
 ·rw[he _ (by simp[Op.operands])]
 ·rw[he _ (by simp[Op.operands])]
 ·rename_i t y z;have e1:ev y=Qo y:=he _ (by simp[Op.operands]);have e3:ev z=Qo z:=he _ (by simp[Op.operands]);have e2:=h y (by simp[Op.operands]);rw[<-e1,e3];split
  ·split
   ·split
    ·split
     ·rfl
     ·rfl
     ·exact aOE e2
    ·rfl
   ·split
    ·rename_i jT;exact Gi (by rw[jT]at e2;exact e2)
    ·exact Gi (by intro i hi;cases hi)
    ·rfl
   ·rfl
  ·rfl
 ·rw[he _ (by simp[Op.operands]),he _ (by simp[Op.operands])]
 ·rw[he _ (by simp[Op.operands])]
 ·rename_i f args yQ;have e1:args.toList.map ev=args.toList.map Qo:=cCP fun x hx=>he x (by simp[Op.operands,Call.operands];exact .inr (by simpa using hx))
  have e0:ev f=Qo f:=he f (by simp[Op.operands,Call.operands]);rw[e0,e1];split
  ·split
   ·rfl
   ·have hx:∀x∈args.toList.map Qo,∀i∈refs x,hp i=hp' i:=by
     intro x hx i hi;rw[<-e1]at hx;obtain⟨y,hy,rfl⟩:=List.mem_map.1 hx;exact h y (by simp[Op.operands,Call.operands];exact .inr (by simpa using hy)) i hi
    split
    ·exact Th hx
    ·exact aDO hx
  ·split
   ·split
    ·refine Th ?_;intro x hx i hi;rcases List.mem_append.1 hx with hx |hx
     ·rw[<-e1]at hx;obtain⟨y,hy,rfl⟩:=List.mem_map.1 hx;exact h y (by simp[Op.operands,Call.operands];exact .inr (by simpa using hy)) i hi
     ·obtain⟨y,_,rfl⟩:=List.mem_map.1 hx;simp[refs,refsV,refsL]at hi
    ·rfl
   ·rfl
 ·rename_i b args yQ;have e1:args.toList.map ev=args.toList.map Qo:=cCP fun x hx=>he x (by simpa [Op.operands,Call.operands] using hx)
  rw[e1];refine Vv ?_;intro x hx i hi;rw[<-e1]at hx;obtain⟨y,hy,rfl⟩:=List.mem_map.1 hx;exact h y (by simpa [Op.operands,Call.operands] using hy) i hi
 ·rfl
end AI
namespace AI
open Go Go.RowKit
inductive Gd where
 |run
 |skip
 |bad
def gd(ops:Array Oper)(o:Oper)(fr:Nat->A):Gd :=
 match o.guard with
 |none=>.run
 |some (j,want)=>match (ops[j]?).bind (·.dst)with
  |some d=>match fr d with
   | .v (.one (.s (.sc (.bool b))))=>if b=want then .run else .skip
   | .Mf []=>.skip
   |_=>.bad
  |none=>.bad
structure Dt where
 i:Nat
 o:Oper
 x:A
 u:rL
 t:List Nat
def Ah(E:Env)(ops:Array Oper)(base:Nat)(d:Dt)(st gE:St):Prop :=
 ops[d.i]?=some d.o/\jX E.nt d.o=true /\
  ((gd ops d.o st.fr=.run/\rU E (base+8*d.i) d.o (evA E st.fr) st.hp=some (d.x,d.u)/\d.t=vK d.o (evA E st.fr) d.u)\/(gd ops d.o st.fr=.skip/\d.x=.Mf []/\d.u=[]/\d.t=[])) /\
  gE=after d.o st d.x d.u
def zW(E:Env)(ops:Array Oper)(base:Nat):List Dt->St->St->Prop
 | [],st,gE=>st=gE
 |d :: l,st,gE=>∃st1,Ah E ops base d st st1/\zW E ops base l st1 gE
def Dt.told(d:Dt):Rec:=⟨d.i,d.o,d.t,d.u.map (·.1)⟩
def Fg(ops:Array Oper)(d d':Dt):Prop:=indep ops d.told d'.i d'.o d'.t (d'.u.map (·.1))=true
theorem kZ{R:Type}(len:Nat)(lo hi mx:Option A)(K:Nat->Nat->Option R):sliceK len lo hi mx K=(sliceK len lo hi mx fun l h=>some (l,h)).bind fun p=>K p.1 p.2:=by
 unfold sliceK;split
 ·split <;> rfl
 ·split
  ·split <;> rfl
  ·rfl
 ·rfl
theorem Jr{R S:Type}(n:Int)(f:Nat->S)(K:S->Option R):∀m j:Nat,splitN n m j (fun i=>K (f i))=(splitN n m j (fun i=>some (f i))).bind K
 |0,_=>rfl
 |m+1,j=>by
  unfold splitN;cases decide (n=(j:Int))with
  |true=>rfl
  |false=>exact Jr n f K m (j+1)
theorem sO{R:Type}(hp:Nat->Option kY)(t:TI)(rJ:Nat)(x:A)(n:Int)(K:A->Option R):idxK hp t rJ x n K=(idxK hp t rJ x n some).bind K:=by
 unfold idxK;split
 ·split
  ·split <;> rfl
  ·rfl
 ·split
  ·split
   ·split <;> rfl
   ·rfl
  ·split <;> rfl
  ·rfl
 ·split
  ·split
   ·split <;> rfl
   ·rfl
  ·rfl
 ·split
  ·split <;> rfl
  ·rfl
 ·split
  ·rename_i id off x len esz' g hk;cases cBH len 8 with
   |true=>exact Jr n (fun j=>A.v (V.one (L.ptr id (off+j*rJ)))) K len 0
   |false =>
    simp only[cond_false];split <;> rfl
  ·rfl
 ·split
  ·split
   ·split <;> rfl
   ·rfl
  ·rfl
 ·rfl
theorem Fw{R S:Type}(n:Int){F:Nat->Option R}{G:Nat->Option S}(K:S->Option R)(h:∀j,F j=(G j).bind K):∀m j:Nat,splitN n m j F=(splitN n m j G).bind K
 |0,_=>rfl
 |m+1,j=>by
  unfold splitN;cases decide (n=(j:Int))with
  |true=>exact h j
  |false=>exact Fw n K h m (j+1)
theorem Sn{R:Type}(sh:Bool)(hp:Nat->Option kY)(t:TI)(rJ:Nat)(x:A)(n:Int)(K:A->Option R):idxS sh hp t rJ x n K=(idxS sh hp t rJ x n some).bind K:=by
 unfold idxS;split
 ·split
  ·exact Fw n K (fun j=>sO ..) _ 0
  ·exact sO ..
 ·exact sO ..
theorem Pe{R:Type}(E:Env)(id:Nat)(keep:Bool)(f:FuncId)(args:List A)(hp:Nat->Option kY)(K:A->rL->Option R):callK E id keep f args hp K=(callK E id keep f args hp fun a u=>some (a,u)).bind fun p=>K p.1 p.2:=by
 unfold callK;split
 ·rfl
 ·split
  ·rfl
  ·rename_i g rs _;unfold aM;simp only[Fx];split
   ·cases cBH rs.length 8 with
    |false=>rfl
    |true =>
     simp only[cond_true];split <;> rfl
   ·rfl
theorem Zz{R:Type}(E:Env)(ps:List Nat)(id:Nat)(keep:Bool)(f:FuncId)(args:List A)(hp:Nat->Option kY)(K:A->rL->Option R):callIO E ps id keep f args hp K=(callIO E ps id keep f args hp fun a u=>some (a,u)).bind fun p=>K p.1 p.2:=by
 unfold callIO;split
 ·rfl
 ·generalize (leqN _ _&&_)=bb;cases bb with
  |false=>rfl
  |true =>
   simp only[cond_true];split
   ·rfl
   ·unfold aM;simp only[Fx];split
    ·generalize (cBH _ _&&_&&_)=b2;cases b2 with
     |false=>rfl
     |true =>
      simp only[cond_true];split
      ·rfl
      ·split <;> rfl
    ·rfl
theorem Ro{R:Type}(n0 id:Nat)(e:TypeId)(te:TI)(s x:A)(hp:Nat->Option kY)(K:A->rL->Option R):appCells n0 id e te s x hp K=(appCells n0 id e te s x hp fun a u=>some (a,u)).bind fun p=>K p.1 p.2:=by
 unfold appCells;split
 ·split
  ·split
   ·split
    ·split
     ·split <;> rfl
     ·rfl
    ·split <;> rfl
    ·rfl
   ·rfl
  ·rfl
 ·rfl
theorem Rl{R:Type}(E:Env)(id:Nat)(b:Builtin)(args:List A)(yQ:List TypeId)(hp:Nat->Option kY)(K:A->rL->Option R):builtinK E id b args yQ hp K=(builtinK E id b args yQ hp fun a u=>some (a,u)).bind fun p=>K p.1 p.2:=by
 unfold builtinK;split
 ·split <;> rfl
 ·split <;> rfl
 ·split <;> rfl
 ·split
  ·split
   ·split
    ·split
     ·split
      ·split
       ·generalize cBQ _ _=bb;cases bb with
        |true=>rfl
        |false =>
         simp only[cond_false];split
         ·split <;> rfl
         ·rfl
       ·rfl
      ·split <;> rfl
      ·rfl
     ·rfl
    ·exact Ro ..
    ·rfl
   ·rfl
  ·rfl
 ·split
  ·split
   ·split
    ·split
     ·split <;> rfl
     ·rfl
    ·split
     ·split <;> rfl
     ·rfl
    ·rfl
   ·rfl
  ·rfl
 ·rfl
theorem qJ {R : Type} (E : Env) (id : Nat) (o : Oper) (ev : Operand → A) (hp : Nat → Option kY) (K : A → rL → Option R) : effK E id o ev hp K = (rU E id o ev hp).bind fun p => K p.1 p.2 := by
  unfold rU effK
  split
  · rfl
  · rfl
  · split
    · split
      · rfl
      · rename_i t _ _ _ _; cases t <;> rfl
    · rfl
  · split <;> rfl
  · split
    · split <;> rfl
    · rfl
  · split
    · rw [nF]; conv => rhs; rw [nF]
      rw [cBM]; rfl
    · rw [nF]; conv => rhs; rw [nF]
      rw [cBM]; rfl
    · rfl
  · split
    · split
      · split
        · rw [nF]; conv => rhs; rw [nF]
          rw [cBM]
          congr 1
          funext r
          split
          · split <;> rfl
          · rfl
        · rfl
      · rfl
    · rfl
  · split
    · split
      · split
        · split <;> rfl
        · rfl
      · split <;> rfl
      · split <;> rfl
      · split <;> rfl
      · rfl
    · rfl
  · split <;> rfl
  · split
    · split
      · split
        · split <;> rfl
        · rfl
      · split
        · split <;> rfl
        · rfl
      · rfl
    · rfl
  · split
    · generalize boolT _ _ = bb
      cases bb with
      | true => simp only [cond_true]; rw [Jb]; conv => rhs; rw [Jb]
                rw [cBM]; rfl
      | false => rfl
    · split
      · split <;> rfl
      · rfl
    · rfl
  · split
    · rw [Md]; conv => rhs; rw [Md]
      rw [cBM]; rfl
    · rfl
  · split
    · rw [Ez]; conv => rhs; rw [Ez]
      rw [cBM]; rfl
    · rfl
  · split
    · split
      · split
        · split <;> rfl
        · rfl
      · rfl
    · rfl
  · split
    · split
      · split
        · split
          · rw [kZ]; conv => rhs; rw [kZ]
            rw [cBM]; rfl
          · rfl
        · rw [kZ]; conv => rhs; rw [kZ]
          rw [cBM]; rfl
        · rw [kZ]; conv => rhs; rw [kZ]
          rw [cBM]; rfl
        · rw [kZ]; conv => rhs; rw [kZ]
          rw [cBM]; rfl
        · rfl
      · split
        · split
          · rw [kZ]; conv => rhs; rw [kZ]
            rw [cBM]; rfl
          · rfl
        · rfl
      · rfl
    · rfl
  · split
    · split
      · split <;> rfl
      · split <;> rfl
      · rfl
    · rfl
  · split
    · split
      · split <;> rfl
      · rfl
    · rfl
  · split
    · split
      · split
        · split
          · rfl
          · rfl
          · rw [Sn]; conv => rhs; rw [Sn]
            rw [cBM]; rfl
        · rfl
      · split
        · rw [sO]; conv => rhs; rw [sO]
          rw [cBM]; rfl
        · rw [sO]; conv => rhs; rw [sO]
          rw [cBM]; rfl
        · rfl
      · rfl
    · rfl
  · split
    · split
      · split <;> rfl
      · rfl
    · split <;> rfl
    · rfl
  · split
    · split <;> rfl
    · rfl
  · split
    · split
      · unfold aM
        split <;> rfl
      · split
        · exact Pe _ _ _ _ _ _ _
        · exact Zz _ _ _ _ _ _ _ _
    · split
      · split
        · exact Pe _ _ _ _ _ _ _
        · rfl
      · rfl
  · exact Rl _ _ _ _ _ _ _
  · rfl
theorem aEN(fr:Nat->A)(d:Nat)(b:Bool)(h:fr d=Dr (.bool b)):Cy fr d (Dr (.bool b))=fr:=Xh fr d _ h
theorem Sg{R:Type}(E:Env)(draw:Bool)(ops:Array Oper)(base:Nat)(K:St->Option R)(r:R):∀(l:List Oper) (i:Nat) (pP:List Rec) (st:St),
  (∀(k:Nat) (o:Oper),l[k]?=some o->ops[i+k]?=some o)->opsK E draw ops base l i pP st K=some r ->
  ∃ds gE,K gE=some r/\zW E ops base ds st gE/\ds.map (·.i)=List.range' i l.length /\
   (draw=true->(∀rc∈pP,∀d∈ds,indep ops rc d.i d.o d.t (d.u.map (·.1))=true)/\cDD (Fg ops) ds/\∀d∈ds,zJ d.i d.o=true)
 | [],i,pP,st,_,h=>⟨[],st,h,rfl,rfl,fun _=>⟨fun _ _ _ hd=>(by cases hd),List.Pairwise.nil,fun _ hd=>(by cases hd)⟩⟩
 |o :: l,i,pP,st,hl,h=>by
  have hi:ops[i]?=some o:=by simpa using hl 0 o rfl
  have bJW:∀(k:Nat) (o':Oper),l[k]?=some o'->ops[i+1+k]?=some o':=fun k o' hk=>by have:=hl (k+1) o' (by simpa using hk);rwa [show i+(k+1)=i+1+k by omega]at this
  unfold opsK at h;cases bOA:jX E.nt o&&(!draw||zJ i o)with
  |false=>rw[bOA]at h;cases h
  |true =>
   rw[bOA]at h;simp only[cond_true]at h;obtain⟨aJC,bKA⟩:=(cBK _ _).mp bOA;have go:∀(x:A) (u:rL) (t:List Nat),Ah E ops base ⟨i,o,x,u,t⟩ st (after o st x u) ->
     (bif !draw||pP.all fun r=>indep ops r i o t (u.map (·.1))then opsK E draw ops base l (i+1) (⟨i,o,t,u.map (·.1)⟩ :: pP) (after o st x u) K else none)=some r ->
     ∃ds gE,K gE=some r/\zW E ops base ds st gE/\ds.map (·.i)=List.range' i (o :: l).length /\
      (draw=true->(∀rc∈pP,∀d∈ds,indep ops rc d.i d.o d.t (d.u.map (·.1))=true)/\cDD (Fg ops) ds/\∀d∈ds,zJ d.i d.o=true):=by
    intro x u t hs hk;cases hc:!draw||pP.all fun r=>indep ops r i o t (u.map (·.1))with
    |false=>rw[hc]at hk;cases hk
    |true =>
     rw[hc]at hk;simp only[cond_true]at hk;obtain⟨ds,gE,h1,h2,h3,h4⟩:=Sg E draw ops base K r l (i+1) _ _ bJW hk;refine⟨⟨i,o,x,u,t⟩ :: ds,gE,h1,⟨_,hs,h2⟩,by simp[h3,List.range'_succ],fun aJD=>?_⟩;obtain⟨h5,h6,h7⟩:=h4 aJD;subst aJD;simp only[cDE,cDF]at hc bKA;refine⟨fun rc bRX d hd=>?_,List.pairwise_cons.2 ⟨fun d hd=>(show indep ops ⟨i,o,t,u.map (·.1)⟩ d.i d.o d.t (d.u.map (·.1))=true from h5 _ (cBL ..) d hd),h6⟩,fun d hd=>?_⟩
     ·rcases List.mem_cons.1 hd with rfl |hd
      ·exact List.all_eq_true.1 hc rc bRX
      ·exact h5 rc (by simp[bRX]) d hd
     ·rcases List.mem_cons.1 hd with rfl |hd
      ·exact bKA
      ·exact h7 d hd
   split at h
   ·rename_i hg;rw[qJ]at h;obtain⟨⟨x,u⟩,he,h⟩:=Option.bind_eq_some_iff.1 h;exact go x u _ ⟨hi,aJC,.inl ⟨by unfold gd;rw[hg],he,rfl⟩,rfl⟩ h
   ·rename_i j want hg;split at h
    ·rename_i d hd;split at h
     ·rename_i b hb;have e0:Cy st.fr d (Dr (.bool b))=st.fr:=aEN st.fr d b hb;have bDQ:∀w,(b==want)=w->gd ops o st.fr=if w=true then .run else .skip:=by
       intro w hw;unfold gd;rw[hg];simp only[hd,hb];subst hw
       by_cases aLG:b=want <;> simp[aLG]
      have key:(bif b==want then
        effK E (base+8*i) o (evA E st.fr) st.hp fun a u =>
         bif !draw||pP.all fun r=>indep ops r i o (vK o (evA E st.fr) u) (u.map (·.1))then opsK E draw ops base l (i+1) (⟨i,o,vK o (evA E st.fr) u,u.map (·.1)⟩ :: pP) (after o st a u) K else none
       else bif !draw||pP.all fun r=>indep ops r i o [] []then opsK E draw ops base l (i+1) (⟨i,o,[],[]⟩ :: pP) (after o st (.Mf []) []) K else none)=some r:=by
       cases b
       ·simp only[cond_false,e0]at h;exact h
       ·simp only[cond_true,e0]at h;exact h
      cases aLG:b==want with
      |true =>
       rw[aLG]at key;simp only[cond_true]at key;rw[qJ]at key;obtain⟨⟨x,u⟩,he,key⟩:=Option.bind_eq_some_iff.1 key;exact go x u _ ⟨hi,aJC,.inl ⟨by rw[bDQ true aLG];rfl,he,rfl⟩,rfl⟩ key
      |false =>
       rw[aLG]at key;simp only[cond_false]at key;exact go (.Mf []) [] [] ⟨hi,aJC,.inr ⟨by rw[bDQ false aLG];rfl,rfl,rfl,rfl⟩,rfl⟩ key
     ·rename_i hb;exact go (.Mf []) [] [] ⟨hi,aJC,.inr ⟨by unfold gd;rw[hg];simp only[hd,hb],rfl,rfl,rfl⟩,rfl⟩ h
     ·cases h
    ·cases h
end AI
namespace AI
open Go Go.RowKit
theorem Di{xs ys:List Nat}(h:Rh xs ys=true){i:Nat}(hx:i∈xs):i ∉ ys:=by
 intro hy;have:=List.all_eq_true.1 h i hx;simp at this;exact this hy
theorem jL{u:rL}{hp:Nat->Option kY}{i:Nat}(h:i ∉ u.map (·.1)):applyUps u hp i=hp i:=by
 induction u generalizing hp with
 |nil=>rfl
 |cons p u ih =>
  obtain⟨j,b⟩:=p;simp only[cBD,cCM,not_or]at h;rw[applyUps,ih h.2,gB _ _ h.1]
theorem Eh{u:rL}{hp hp':Nat->Option kY}{i:Nat}(h:i∈u.map (·.1)):applyUps u hp i=applyUps u hp' i:=by
 induction u generalizing hp hp' with
 |nil=>cases h
 |cons p u ih =>
  obtain⟨j,b⟩:=p;simp only[applyUps]
  by_cases hi:i∈u.map (·.1)
  ·exact ih hi
  ·have e:i=j:=by simpa [hi] using h
   subst e;rw[jL hi,jL hi,bW,bW]
theorem Rn{u v:rL}{hp:Nat->Option kY}(h:Rh (u.map (·.1)) (v.map (·.1))=true):applyUps u (applyUps v hp)=applyUps v (applyUps u hp):=by
 funext i
 by_cases hu:i∈u.map (·.1)
 ·have hv:i ∉ v.map (·.1):=Di h hu;rw[jL hv];exact Eh hu
 ·rw[jL hu]
  by_cases hv:i∈v.map (·.1)
  ·exact Eh hv
  ·rw[jL hv,jL hv,jL hu]
theorem aTT{o:Oper}{x:A}{fr:Nat->A}{t:Nat}(h:o.dst≠some t):Er o x fr t=fr t:=by
 unfold Er;cases hd:o.dst with
 |some d=>exact gB _ _ (fun e=>h (by rw[hd,e]))
 |none=>rfl
theorem aIH{o o':Oper}{x x':A}{fr:Nat->A}(h:∀d,o.dst=some d->o'.dst≠some d):Er o x (Er o' x' fr)=Er o' x' (Er o x fr):=by
 unfold Er;cases hd:o.dst with
 |none=>rfl
 |some d =>
  cases Ee:o'.dst with
  |none=>rfl
  |some d' =>
   have Bp:d≠d':=fun e=>h d hd (by rw[Ee,e])
   funext t;simp only
   by_cases h1:t=d
   ·subst h1;rw[bW,gB _ _ Bp,bW]
   ·rw[gB _ _ h1]
    by_cases h2:t=d'
    ·subst h2;rw[bW,bW]
    ·rw[gB _ _ h2,gB _ _ h2,gB _ _ h1]
def bCY(ops:Array Oper)(p q:Dt):Prop:=p.o.apart ops q.o=true/\Rh (p.u.map (·.1)) q.t=true/\Rh (q.u.map (·.1)) p.t=true
theorem bCY.symm{ops:Array Oper}{p q:Dt}(h:bCY ops p q):bCY ops q p:=by
 refine⟨?_,h.2.2,h.2.1⟩;obtain⟨h1,h2,h3⟩:=Oper.apart_spec h.1;unfold Oper.apart;rw[cBK];constructor
 ·cases hq:q.o.dst with
  |none=>rfl
  |some d =>
   simp only[cBK,cCO,bne_iff_ne,ne_eq];refine⟨by simpa using h3 d hq,fun hp=>?_⟩;exact h2 d hp hq
 ·cases hp:p.o.dst with
  |none=>rfl
  |some d=>simpa using h1 d hp
section
variable {E:Env} {ops:Array Oper} {base:Nat}
theorem Uq{o:Oper}{t:Tmp}(h:Operand.tmp t∈o.op.operands.toList):t∈o.looksAt ops:=by
 unfold Oper.looksAt;exact List.mem_append.2 (.inl (List.mem_filterMap.2 ⟨_,h,rfl⟩))
theorem aPQ{fr bEA:Nat->A}{o:Oper}(h:∀t,t∈o.looksAt ops->fr t=bEA t){x:Operand}(hx:x∈o.op.operands.toList):evA E fr x=evA E bEA x:=by
 cases x with
 |tmp t=>exact h t (Uq hx)
 |_=>rfl
theorem aGW{fr bEA:Nat->A}{o:Oper}(h:∀t,t∈o.looksAt ops->fr t=bEA t):gd ops o fr=gd ops o bEA:=by
 unfold gd;cases hg:o.guard with
 |none=>rfl
 |some p =>
  obtain⟨j,want⟩:=p;simp only;cases hd:(ops[j]?).bind (·.dst)with
  |none=>rfl
  |some d =>
   have:fr d=bEA d:=h d (by
    unfold Oper.looksAt;rw[hg];exact List.mem_append.2 (.inr (by simp[hd])))
   simp only[this]
theorem Ah.same{p:Dt}{st st1:St}(bDR:∀t,t∈p.o.looksAt ops->st.fr t=st1.fr t)(Zd:∀i,i∈p.t->st.hp i=st1.hp i){bJB:St}(h:Ah E ops base p st1 bJB):Ah E ops base p st (after p.o st p.x p.u):=by
 obtain⟨h1,h2,h3,_⟩:=h;refine⟨h1,h2,?_,rfl⟩;rcases h3 with ⟨hg,he,ht⟩ |⟨hg,hx,hu,ht⟩
 ·have jT:∀x,x∈p.o.op.operands.toList->evA E st1.fr x=evA E st.fr x:=fun x hx=>(aPQ (ops:=ops) bDR hx).symm
  refine .inl ⟨by rw[aGW (ops:=ops) bDR];exact hg,?_,?_⟩
  ·rw[<-he];exact(aQC jT (fun x hx i hi=>(Zd i (by rw[ht];exact List.mem_append.2 (.inl (List.mem_flatMap.2 ⟨x,hx,hi⟩)))).symm)).symm
  ·rw[ht];unfold vK;congr 1;rw[cEA,cEA];congr 1;exact cCP fun x hx=>by rw[jT x hx]
 ·exact .inr ⟨by rw[aGW (ops:=ops) bDR];exact hg,hx,hu,ht⟩
theorem Ei{q:Dt}{st:St}{o:Oper}(h:∀d,q.o.dst=some d->d ∉ o.looksAt ops):∀t,t∈o.looksAt ops->st.fr t=(after q.o st q.x q.u).fr t:=by
 intro t ht;exact(aTT (fun e=>h t e ht)).symm
theorem aLT{p:Dt}{st gE:St}(h:Ah E ops base p st gE):∀i,i∈p.u.map (·.1)->i∈p.t:=by
 intro i hi;obtain⟨_,_,h3,_⟩:=h;rcases h3 with ⟨_,_,ht⟩ |⟨_,_,hu,_⟩
 ·rw[ht];exact List.mem_append.2 (.inr hi)
 ·rw[hu]at hi;cases hi
theorem zW.swap{p q:Dt}{l:List Dt}{st bEQ:St}(hi:bCY ops q p)(h:zW E ops base (q :: p :: l) st bEQ):zW E ops base (p :: q :: l) st bEQ:=by
 obtain⟨st1,hq,bJB,hp,hl⟩:=h;obtain⟨a1,a2,a3⟩:=Oper.apart_spec hi.1;have e1:st1=after q.o st q.x q.u:=hq.2.2.2;have e2:bJB=after p.o st1 p.x p.u:=hp.2.2.2;have hp':Ah E ops base p st (after p.o st p.x p.u):=by
  refine Ah.same (st1:=st1) ?_ ?_ hp
  ·rw[e1];exact Ei a1
  ·intro i aGN;rw[e1];exact(jL (fun hm=>Di hi.2.1 hm aGN)).symm
 have aGL:Ah E ops base q (after p.o st p.x p.u) (after q.o (after p.o st p.x p.u) q.x q.u):=by
  refine Ah.same (st1:=st) ?_ ?_ hq
  ·intro t ht;exact(Ei a3 t ht).symm
  ·intro i aGN;exact jL (fun hm=>Di hi.2.2 hm aGN)
 have e3:after q.o (after p.o st p.x p.u) q.x q.u=bJB:=by
  rw[e2,e1];unfold after;simp only;rw[aIH (o:=q.o) (o':=p.o) (fun d hd=>a2 d hd),Rn];have hu:=aLT hp;unfold Rh;rw[List.all_eq_true];intro i aGN;have:=Di hi.2.1 aGN;simp only[cCO,List.elem_eq_mem,decide_eq_false_iff_not];exact fun hm=>this (hu i hm)
 exact⟨_,hp',_,aGL,by rw[e3];exact hl⟩
theorem zW.front{p:Dt}{l2:List Dt}{bEQ:St}:∀{l1:List Dt} {st:St},(∀q∈l1,bCY ops q p)->zW E ops base (l1 ++ p :: l2) st bEQ->zW E ops base (p :: (l1 ++ l2)) st bEQ
 | [],st,_,h=>h
 |q :: l1,st,hi,h=>by
  obtain⟨st1,hq,h⟩:=h;have ih:=zW.front (fun q' aGL=>hi q' (cBP _ aGL)) h;exact zW.swap (hi q (cBL ..)) ⟨st1,hq,ih⟩
end
def aWK(base:Nat)(done:Nat->Prop)(id:Nat):Prop:=id<base\/∃i,done i/\base+8*i<=id/\id<base+8*i+8
section
variable {P:Program} {E:Env} {X:Nat->Prop} {w0:Old} {ops:Array Oper} {base:Nat}
theorem jY.tM{ρ:Nat->Nat}{al al':Nat->Prop}{fr:Nat->A}{hp:Nat->Option kY}{a:Act}{w:World}(h:jY E X w0 ρ al fr hp a w)(tH:∀i,al i->al' i):jY E X w0 ρ al' fr hp a w :=
 { fr:=h.fr,sz:=h.sz,nod:=h.nod,blk:=h.blk,inj:=h.inj,alh:=fun i b hb=>tH i (h.alh i b hb),alr:=fun t i hi=>tH i (h.alr t i hi),below:=h.below,x0:=h.x0,glob:=h.glob,mg:=h.mg,al0:=fun i hi=>tH i (h.al0 i hi),xF:=h.xF }
theorem Su{ρ:Nat->Nat}{al:Nat->Prop}{fr:Nat->A}{hp:Nat->Option kY}{a:Act}{w:World}(h:jY E X w0 ρ al fr hp a w){o:Oper} :
  (gd ops o fr=.run->Region.wanted o (yielded ops a.tmps)=true)/\(gd ops o fr=.skip->Region.wanted o (yielded ops a.tmps)=false):=by
 unfold gd Region.wanted;cases hg:o.guard with
 |none=>exact⟨fun _=>rfl,fun h=>by cases h⟩
 |some p =>
  obtain⟨j,want⟩:=p;simp only;cases hd:(ops[j]?).bind (·.dst)with
  |none=>exact⟨fun h=>(by cases h),fun h=>(by cases h)⟩
  |some d =>
   simp only;split
   ·rename_i b hb;have hr:=h.fr d;rw[hb]at hr;have hv:a.tmps.getD d undef=.bool b:=hr.1;have hy:yielded ops a.tmps j=some b:=by
     unfold yielded;rw[hd];simp only[cCW];have:a.tmps[d]?=some (.bool b):=by
      rw[Array.getD_eq_getD_getElem?]at hv;cases hq:a.tmps[d]? with
      |none=>rw[hq]at hv;simp[undef]at hv
      |some v=>rw[hq]at hv;simp at hv;rw[hv]
     rw[this]
    rw[hy]
    by_cases aLG:b=want
    ·simp[aLG]
    ·simp[aLG]
   ·rename_i hb;have hr:=h.fr d;rw[hb]at hr;obtain⟨arr,hv,_⟩:=hr;have hy:yielded ops a.tmps j=none:=by
     unfold yielded;rw[hd];simp only[cCW];rw[Array.getD_eq_getD_getElem?]at hv;cases hq:a.tmps[d]? with
     |none=>rfl
     |some v=>rw[hq]at hv;simp at hv;rw[hv]
    rw[hy];exact⟨fun h=>(by cases h),fun _=>rfl⟩
   ·exact⟨fun h=>(by cases h),fun h=>(by cases h)⟩
theorem Ah.wp(hT:pK P E.T)(hC:kX P E){ρ:Nat->Nat}{done:Nat->Prop}{a:Act}{w:World}{st gE:St}{d:Dt}(hs:Ah E ops base d st gE)(h:jY E X w0 ρ (aWK base done) st.fr st.hp a w)(hnd:¬done d.i)
  (K:Act->World->Prop) (Q:Exit->Act->World->Prop) (hK:∀ρ' a' w',jY E X w0 ρ' (aWK base fun i=>done i\/i=d.i) gE.fr gE.hp a' w'->K a' w'):wpOp P ops Q d.i K a w:=by
 obtain⟨h1,h2,h3,rfl⟩:=hs;unfold wpOp;rw[h1];simp only;have Sp:∀i,pA (aWK base done) (base+8*d.i) i->aWK base (fun i=>done i\/i=d.i) i:=by
  rintro i ((hi |⟨j,hj,aJA⟩) |hi)
  ·exact .inl hi
  ·exact .inr ⟨j,.inl hj,aJA⟩
  ·exact .inr ⟨d.i,.inr rfl,hi⟩
 rcases h3 with ⟨hg,he,ht⟩ |⟨hg,hx,hu,ht⟩
 ·rw[if_pos ((Su h).1 hg)];refine .inl (aBP h h2 hT hC ?_ he K Q (fun ρ' v w' aCO=>hK ρ' _ w' (aCO.tM Sp)));rintro j hj (kM |⟨i,hi,bNT⟩)
  ·omega
  ·have:i=d.i:=by omega
   subst this;exact hnd hi
 ·rw[if_neg (by rw[(Su h).2 hg];simp)];rw[hx,hu]at hK;exact hK ρ _ w ((h.pure h2 (x:=.Mf []) (v:=undef) ⟨#[],rfl,rfl,fun i y u hy=>by cases hy⟩ (by simp[refs])).tM (fun i hi=>Sp i (.inl hi)))
theorem zW.wpOps(hT:pK P E.T)(hC:kX P E)(Q:Exit->Act->World->Prop):∀(ds:List Dt) (done:Nat->Prop) (ρ:Nat->Nat) (a:Act) (w:World) (st gE:St),zW E ops base ds st gE->jY E X w0 ρ (aWK base done) st.fr st.hp a w ->
  (∀d∈ds,¬done d.i)->(ds.map (·.i)).Nodup->(∀ρ' a' w',jY E X w0 ρ' (aWK base fun i=>done i\/i∈ds.map (·.i)) gE.fr gE.hp a' w'->Q .normal a' w') ->
  Go.wpOps P ops Q (ds.map (·.i)) a w
 | [],done,ρ,a,w,st,gE,h,hs,_,_,hQ=>by
  cases h;exact hQ ρ a w (hs.tM (fun i hi=>hi.imp id fun⟨j,hj,aJA⟩=>⟨j,.inl hj,aJA⟩))
 |d :: ds,done,ρ,a,w,st,gE,h,hs,hnd,Al,hQ=>by
  obtain⟨st1,hd,hr⟩:=h;rw[cBD,wpOps_cons];rw[cBD,List.nodup_cons]at Al;refine hd.wp hT hC hs (hnd d (cBL ..)) _ _ (fun ρ' a' w' rT=>?_);refine zW.wpOps hT hC Q ds _ ρ' a' w' st1 gE hr rT (fun d' Ee Zf=>?_) Al.2 (fun ρ2 a2 w2 Qk=>hQ ρ2 a2 w2 (Qk.tM ?_))
  ·rcases Zf with Zf |Zf
   ·exact hnd d' (cBP _ Ee) Zf
   ·exact Al.1 (List.mem_map.2 ⟨d',Ee,Zf⟩)
  ·rintro i (hi |⟨j,hj,aJA⟩)
   ·exact .inl hi
   ·refine .inr ⟨j,?_,aJA⟩;rcases hj with (hj |hj) |hj
    ·exact .inl hj
    ·exact .inr (by rw[cBD,hj];exact cBL ..)
    ·exact .inr (by rw[cBD];exact cBP _ hj)
theorem Fg.ind{p q:Dt}(h:Fg ops p q)(Bp:¬(q.o.after.any fun e=>Region.binds .any e&&e.on==p.i)=true)(bNF:¬befB ops p.i 3 q.o=true):bCY ops p q:=by
 unfold Fg indep at h;rw[cCQ,cCQ]at h;rcases h with (h |h) |h
 ·exact absurd h Bp
 ·simp only[cBK]at h;exact⟨h.1.1,h.1.2,h.2⟩
 ·exact absurd h bNF
def Wx(ops:Array Oper)(iY:Array Bool):Prop:=∀(j:Nat) (o:Oper),iY.getD j false=true->ops[j]?=some o->o.after.all (fun e=>!Region.binds .any e||iY.getD e.on false)=true
theorem Wx.bTO{iY:Array Bool}(hc:Wx ops iY){j:Nat}:∀(n:Nat) (o:Oper),o.after.all (fun e=>!Region.binds .any e||iY.getD e.on false)=true->befB ops j n o=true->iY.getD j false=true
 |0,_,_,h=>by cases h
 |n+1,o,ha,h=>by
  unfold befB at h;rw[Array.any_eq_true']at h;obtain⟨e,he,bAU⟩:=h;rw[cBK]at bAU;rw[Array.all_eq_true_iff_forall_mem]at ha;have h1:=ha e he;rw[bAU.1]at h1;simp only[cDE,cDF]at h1;have h2:=bAU.2;rw[cCQ]at h2;rcases h2 with h2 |h2
  ·have:e.on=j:=by simpa using h2
   rw[<-this];exact h1
  ·cases ho:ops[e.on]? with
   |none=>rw[ho]at h2;cases h2
   |some o' =>
    rw[ho]at h2;exact hc.bTO n o' (hc e.on o' h1 ho) h2
theorem zW.wpAny(hT:pK P E.T)(hC:kX P E)(Q:Exit->Act->World->Prop)(n:Nat)(hn:n=ops.size):∀(fuel:Nat) (ds:List Dt) (iY:Array Bool) (ρ:Nat->Nat) (a:Act) (w:World) (st gE:St),ds.length=fuel->iY.size=n ->
  (∀i,i∈ds.map (·.i)↔i<n/\iY.getD i true=false)->(ds.map (·.i)).Pairwise (· < ·)->cDD (Fg ops) ds->(∀d∈ds,zJ d.i d.o=true)->Wx ops iY ->
  zW E ops base ds st gE->jY E X w0 ρ (aWK base fun i=>iY.getD i false=true) st.fr st.hp a w ->
  (∀ρ' a' w',jY E X w0 ρ' (aWK base fun i=>i<n) gE.fr gE.hp a' w'->Q .normal a' w') ->
  Go.wpAny P .any ops Q fuel iY a w:=by
 intro fuel
 induction fuel with
 |zero =>
  intro ds iY ρ a w st gE hlen bSF Oa _ _ _ _ gY hs hQ;obtain rfl:ds=[]:=cDT hlen;cases gY;have Br:∀i,i<n->iY.getD i true=true:=by
   intro i hi;cases hq:iY.getD i true with
   |true=>rfl
   |false=>exact absurd ((Oa i).2 ⟨hi,hq⟩) (by simp)
  refine⟨?_,hQ ρ a w (hs.tM ?_)⟩
  ·unfold Region.ready;rw[List.filter_eq_nil_iff];intro i hi;rw[cDG,<-hn]at hi;simp[Br i hi]
  ·rintro i (hi |⟨j,hj,aJA⟩)
   ·exact .inl hi
   ·refine .inr ⟨j,?_,aJA⟩;rcases cBU j n with h |h
    ·exact h
    ·rw[Array.getD_eq_getD_getElem?,Array.getElem?_eq_none (by omega)]at hj;cases hj
 |succ fuel ih =>
  intro ds iY ρ a w st gE hlen bSF Oa aIW aOO aGP aJF gY hs hQ;have wO:∀d∈ds,ops[d.i]?=some d.o:=by
   have:∀(l:List Dt) (s s':St),zW E ops base l s s'->∀d∈l,ops[d.i]?=some d.o:=by
    intro l
    induction l with
    |nil=>intro s s' _ d hd;cases hd
    |cons d l ih =>
     intro s s' h d' Ee;obtain⟨s1,h1,h2⟩:=h;rcases List.mem_cons.1 Ee with rfl |Ee
     ·exact h1.1
     ·exact ih s1 s' h2 d' Ee
   exact this ds st gE gY
  have aON:∀i,i∈Region.ready .any ops iY↔i<n/\iY.getD i true=false/\∃o,ops[i]?=some o/\o.after.all (fun e=>!Region.binds .any e||iY.getD e.on false)=true:=by
   intro i;unfold Region.ready;rw[List.mem_filter,cDG,<-hn];constructor
   ·rintro ⟨h1,h2⟩;rw[cBK]at h2;refine⟨h1,by simpa using h2.1,?_⟩;cases ho:ops[i]? with
    |none=>rw[ho]at h2;simp at h2
    |some o=>exact⟨o,rfl,by have:=h2.2;rw[ho]at this;simpa using this⟩
   ·rintro ⟨h1,h2,o,ho,h3⟩;refine⟨h1,?_⟩;rw[cBK];exact⟨by simp[h2],by rw[ho];simpa using h3⟩
  refine⟨fun bGM=>?_,fun i hi=>?_⟩
  ·
   exfalso
   match ds,hlen with
   |d :: ds,_ =>
    have hd:d.i<n/\iY.getD d.i true=false:=(Oa d.i).1 (cBL ..);have:d.i∈Region.ready .any ops iY:=by
     refine(aON d.i).2 ⟨hd.1,hd.2,d.o,wO d (cBL ..),?_⟩;have he:=aGP d (cBL ..);unfold zJ at he;rw[Array.all_eq_true_iff_forall_mem]at he ⊢;intro e bYI;have:=he e bYI;rw[cCQ]at this ⊢;rcases this with h |h
     ·exact .inl h
     ·right;have kM:e.on<d.i:=cDC h;cases hq:iY.getD e.on false with
      |true=>rfl
      |false =>
       have aGL:iY.getD e.on true=false:=by
        rw[Array.getD_eq_getD_getElem?]at hq ⊢;rw[Array.getElem?_eq_getElem (by omega)]at hq ⊢;exact hq
       have hm:=(Oa e.on).2 ⟨by omega,aGL⟩;rw[cBD,cCM]at hm;rw[cBD,List.pairwise_cons]at aIW;rcases hm with hm |hm
       ·omega
       ·have:=aIW.1 _ hm;omega
    rw[bGM]at this;cases this
  ·obtain⟨h1,h2,o,ho,h3⟩:=(aON i).1 hi;have bXV:=(Oa i).2 ⟨h1,h2⟩;obtain⟨p,hp,bGD⟩:=List.mem_map.1 bXV;obtain⟨l1,l2,rfl⟩:=List.append_of_mem hp;have bSA:p.o=o:=by have:=wO p hp;rw[bGD,ho]at this;exact(Option.some.inj this).symm
   have bNQ:∀q∈l1,bCY ops q p:=by
    intro q hq;have bWX:Fg ops q p:=(List.pairwise_append.1 aOO).2.2 q hq p (cBL ..);have bXD:¬iY.getD q.i false=true:=by
     have bMZ:=(Oa q.i).1 (List.mem_map.2 ⟨q,by simp[hq],rfl⟩);have h4:=bMZ.2;rw[Array.getD_eq_getD_getElem?,Array.getElem?_eq_getElem (by omega)]at h4;rw[Array.getD_eq_getD_getElem?,Array.getElem?_eq_getElem (by omega)];rw[cEB]at h4 ⊢;rw[h4];simp
    refine bWX.ind (fun Gk=>?_) (fun hb=>bXD (aJF.bTO 3 p.o (by rw[bSA];exact h3) hb));rw[Array.any_eq_true']at Gk;obtain⟨e,he,bAU⟩:=Gk;rw[cBK]at bAU;rw[Array.all_eq_true_iff_forall_mem]at h3;have:=h3 e (by rw[<-bSA];exact he);rw[bAU.1]at this;simp only[cDE,cDF]at this;have bWU:e.on=q.i:=by simpa using bAU.2
    have bMZ:=(Oa q.i).1 (List.mem_map.2 ⟨q,by simp[hq],rfl⟩);rw[bWU]at this;rw[Array.getD_eq_getD_getElem?,Array.getElem?_eq_getElem (by omega)]at this;have h4:=bMZ.2;rw[Array.getD_eq_getD_getElem?,Array.getElem?_eq_getElem (by omega)]at h4;rw[cEB]at this h4;rw[this]at h4;cases h4
   obtain⟨st1,aOK,Af⟩:=zW.front bNQ gY;rw[<-bGD];have So:iY.getD p.i false=false:=by
    have:=h2;rw[<-bGD]at this;rw[Array.getD_eq_getD_getElem?,Array.getElem?_eq_getElem (by omega)]at this ⊢;exact this
   refine aOK.wp hT hC hs (by simp[So]) _ _ (fun ρ' a' w' rT=>?_);have bAG:∀x∈(l1 ++ l2).map (·.i),x≠p.i:=by
    intro x hx;rw[cCF,cBD,List.pairwise_append]at aIW;rw[cCF,cCH]at hx;rcases hx with hx |hx
    ·have:=aIW.2.2 x hx p.i (cBL ..);omega
    ·have:=(List.pairwise_cons.1 aIW.2.1).1 x hx;omega
   have bOI:Wx ops (iY.setIfInBounds p.i true):=by
    have Sp:∀k,iY.getD k false=true->(iY.setIfInBounds p.i true).getD k false=true:=by
     intro k hk;rw[Array.getD_eq_getD_getElem?,Array.getElem?_setIfInBounds]
     by_cases bAL:p.i=k
     ·rw[if_pos bAL,aQ];rfl
     ·rw[if_neg bAL,<-Array.getD_eq_getD_getElem?];exact hk
    have aLA:∀(o':Oper),o'.after.all (fun e=>!Region.binds .any e||iY.getD e.on false)=true->o'.after.all (fun e=>!Region.binds .any e||(iY.setIfInBounds p.i true).getD e.on false)=true:=by
     intro o' aLB;rw[Array.all_eq_true_iff_forall_mem]at aLB ⊢;intro e he;have:=aLB e he;rw[cCQ]at this ⊢;exact this.imp id (Sp _)
    intro j o' hj aLB
    by_cases bGU:p.i=j
    ·have:o'=o:=by rw[<-bGU,bGD,ho]at aLB;exact(Option.some.inj aLB).symm
     rw[this];exact aLA o h3
    ·rw[Array.getD_eq_getD_getElem?,Array.getElem?_setIfInBounds,if_neg bGU,<-Array.getD_eq_getD_getElem?]at hj;exact aLA o' (aJF j o' hj aLB)
   refine ih (l1 ++ l2) _ ρ' a' w' st1 gE (by simp at hlen ⊢;omega) (by simpa using bSF) ?_ ?_ ?_ ?_ bOI Af (rT.tM ?_) hQ
   ·intro x;have Qx:=Oa x;rw[cCF,cBD,cCH,cCM]at Qx;rw[cCF,cCH];rw[Array.getD_eq_getD_getElem?,Array.getElem?_setIfInBounds];constructor
    ·intro hx;have Bp:=bAG x (by rw[cCF,cCH];exact hx);have:=Qx.1 (hx.imp id .inr);refine⟨this.1,?_⟩;rw[if_neg (fun e=>Bp e.symm),<-Array.getD_eq_getD_getElem?];exact this.2
    ·rintro ⟨bVZ,Ey⟩
     by_cases bDI:p.i=x
     ·rw[if_pos bDI,aQ]at Ey;simp at Ey
     ·rw[if_neg bDI,<-Array.getD_eq_getD_getElem?]at Ey;rcases Qx.2 ⟨bVZ,Ey⟩with h |h |h
      ·exact .inl h
      ·exact absurd h.symm bDI
      ·exact .inr h
   ·exact aIW.sublist (by simp)
   ·exact aOO.sublist (by simp)
   ·exact fun d hd=>aGP d (by rcases List.mem_append.1 hd with h |h <;> simp[h])
   ·rintro x (hx |⟨j,hj,aJA⟩)
    ·exact .inl hx
    ·refine .inr ⟨j,?_,aJA⟩;show(iY.setIfInBounds p.i true).getD j false=true;rw[Array.getD_eq_getD_getElem?,Array.getElem?_setIfInBounds];rcases hj with hj |hj
     ·by_cases bGU:p.i=j
      ·rw[if_pos bGU,aQ];rfl
      ·rw[if_neg bGU,<-Array.getD_eq_getD_getElem?];exact hj
     ·rw[if_pos hj.symm,aQ];rfl
theorem Ue(hT:pK P E.T)(hC:kX P E)(hm:P.follows .mixedOrders=true){bUS:Nat}{draw:Bool}{R:Type}{K:St->Option R}{r:R}{st:St}{ρ:Nat->Nat}{a:Act}{w:World}(hs:jY E X w0 ρ (fun i=>i<st.n) st.fr st.hp a w)
  (he:opsK E draw ops st.n ops.toList 0 [] st K=some r) (Q:Exit->Act->World->Prop) (hQ:∀gE ρ' a' w',K gE=some r->jY E X w0 ρ' (fun i=>i<st.n+8*ops.size) gE.fr gE.hp a' w'->Q .normal a' w') :
  (Code.region bUS ops draw).wp P Q a w:=by
 obtain⟨ds,gE,hK,gY,bGZ,bHG⟩:=Sg E draw ops st.n K r ops.toList 0 [] st (fun k o hk=>by rw[cBG];simpa using hk) he;have hlen:ds.length=ops.size:=by have:=congrArg List.length bGZ;simpa using this
 have Uy:ds.map (·.i)=cCR ops.size:=by rw[bGZ,Array.length_toList,List.range_eq_range']
 have tH:∀i,aWK st.n (fun i=>i<ops.size) i->i<st.n+8*ops.size:=by
  rintro i (hi |⟨j,hj,aJA⟩) <;> omega
 have Oa:∀i,i∈ds.map (·.i)↔i<ops.size:=fun i=>by rw[Uy,cDG]
 cases draw with
 |false =>
  refine wp_region ?_;rw[<-Uy];refine gY.wpOps hT hC Q ds (fun _=>False) ρ a w st gE (hs.tM (fun i hi=>.inl hi)) (fun _ _ h=>h) (by rw[Uy];exact List.nodup_range) (fun ρ' a' w' rT=>hQ gE ρ' a' w' hK (rT.tM (fun i hi=>tH i ?_)));rcases hi with hi |⟨j,hj,aJA⟩
  ·exact .inl hi
  ·exact .inr ⟨j,(Oa j).1 (hj.resolve_left id),aJA⟩
 |true =>
  obtain⟨_,aOO,aGP⟩:=bHG rfl;refine wp_region_any hm ?_;have aBB:jY E X w0 ρ (fun i=>i<st.n) st.fr st.hp a { w with drawn:=w.drawn+1 }:=hs.drew;refine zW.wpAny hT hC Q ops.size rfl ops.size ds _ ρ a _ st gE hlen (by simp) (fun i=>?_) ?_ aOO aGP (fun j o hj _=>?_) gY (aBB.tM (fun i hi=>.inl hi)) (fun ρ' a' w' rT=>hQ gE ρ' a' w' hK (rT.tM tH))
  ·rw[Oa];constructor
   ·intro hi;exact⟨hi,by rw[Array.getD_eq_getD_getElem?,Array.getElem?_replicate,if_pos hi];rfl⟩
   ·exact fun h=>h.1
  ·rw[Uy];exact List.pairwise_lt_range
  ·exfalso;rw[Array.getD_eq_getD_getElem?,Array.getElem?_replicate]at hj;split at hj <;> cases hj
end
end AI
namespace AI
open Go Go.RowKit
section
variable {P:Program} {E:Env} {X:Nat->Prop} {w0:Old}
def Mb(n0:Nat)(st:St)(p s i:Nat)(kv:KV):Prop :=
 kv=(.any,none)\/(cBH 1000000 s=true/\aPK st (s%1000000)=some (i,kv.1)/\kv.2=none/\n0<=i)\/(∃n,kv=(.v (.one (.buf p n)),st.hp i)/\st.fr (s%1000000)=.v (.one (.buf i n)))\/(kv=(.v (.one (.ptr p 0)),st.hp i)/\st.fr (s%1000000)=.v (.one (.ptr i 0)))\/(kv=(st.fr (s%1000000),none)/\∀i∈refs (st.fr (s%1000000)),i<n0)
def claim(s:Nat)(kv:KV):Bool:=kv.2.isSome||(cBH 1000000 s&&(match kv.1 with | .any=>false |_=>true))
theorem aJI{st:St}{s i:Nat}{a:A}(h:aPK st s=some (i,a)):∃n sz f,st.fr s=.v (.one (.buf i n))/\a=.v (.one (.rows sz n f))/\toD st.hp (.v (.one (.buf i n)))=some (.rows sz n f):=by
 unfold aPK at h;split at h
 ·rename_i i' n hf;split at h
  ·rename_i e cs hb;split at h
   ·rename_i hc;cases h;refine⟨n,_,_,hf,rfl,?_⟩;simp only[toD,hb];rw[if_pos hc]
   ·cases h
  ·cases h
 ·cases h
theorem Gt(n0:Nat)(st:St):∀(keep:List Nat) (p:Nat) (seen:List Nat),(∀x,x<n0->x∈seen)->∃Uw:Nat->Nat,(canonGo n0 st keep p seen).length=keep.length /\
  (∀(k s:Nat),keep[k]?=some s->∃kv,(canonGo n0 st keep p seen)[k]?=some kv/\Mb n0 st (p+k) s (Uw k) kv/\(claim s kv=true->Uw k ∉ seen)) /\
  (∀(k k' s s':Nat) (kv Qi:KV),keep[k]?=some s->keep[k']?=some s'->(canonGo n0 st keep p seen)[k]?=some kv->(canonGo n0 st keep p seen)[k']?=some Qi->claim s kv=true->claim s' Qi=true->Uw k=Uw k'->k=k')
 | [],p,seen,_=>⟨fun _=>0,rfl,fun k s h=>by simp at h,fun k k' s s' kv Qi h=>by simp at h⟩
 |s :: keep,p,seen,hn=>by
  have core:∀(kv:KV) (i:Nat) (Mw:List Nat),(∀x∈seen,x∈Mw)->(claim s kv=true->i∈Mw/\i ∉ seen)->Mb n0 st p s i kv->canonGo n0 st (s :: keep) p seen=kv :: canonGo n0 st keep (p+1) Mw ->
    ∃Uw:Nat->Nat,(canonGo n0 st (s :: keep) p seen).length=(s :: keep).length /\
    (∀(k s':Nat),(s :: keep)[k]?=some s'->∃kv,(canonGo n0 st (s :: keep) p seen)[k]?=some kv/\Mb n0 st (p+k) s' (Uw k) kv/\(claim s' kv=true->Uw k ∉ seen)) /\
    (∀(k k' s1 s2:Nat) (kv Qi:KV),(s :: keep)[k]?=some s1->(s :: keep)[k']?=some s2->(canonGo n0 st (s :: keep) p seen)[k]?=some kv->(canonGo n0 st (s :: keep) p seen)[k']?=some Qi->claim s1 kv=true->claim s2 Qi=true->Uw k=Uw k'->k=k'):=by
   intro kv i Mw bRT hi bNW heq;obtain⟨Uw,h1,h2,h3⟩:=Gt n0 st keep (p+1) Mw (fun x hx=>bRT x (hn x hx));rw[heq];have aXP:∀(k s':Nat) (Qi:KV),keep[k]?=some s'->(canonGo n0 st keep (p+1) Mw)[k]?=some Qi->claim s' Qi=true->Uw k ∉ Mw:=by
    intro k s' Qi rT hk hs;obtain⟨bLT,e1,_,e3⟩:=h2 k s' rT;rw[hk]at e1;cases e1;exact e3 hs
   refine⟨fun k=>if k=0 then i else Uw (k-1),by simp[h1],?_,?_⟩
   ·intro k s' hk
    match k with
    |0=>simp at hk;subst hk;exact⟨kv,rfl,by simpa using bNW,fun h=>by simpa using (hi h).2⟩
    |k+1 =>
     simp at hk;obtain⟨Qi,e1,e2,e3⟩:=h2 k s' hk;refine⟨Qi,by simpa using e1,?_,fun h=>?_⟩
     ·simp only[cEC,if_false,cED];rw[show p+(k+1)=p+1+k by omega];exact e2
     ·simp only[cEC,if_false,cED];exact fun hm=>e3 h (bRT _ hm)
   ·intro k k' s1 s2 bRB bLT aBB Qk hk Zb hs rT he
    match k,k' with
    |0,0=>rfl
    |0,k'+1 =>
     simp at hk Zb aBB Qk;subst hk;subst aBB;simp at he;exact absurd (hi hs).1 (by rw[he];exact aXP k' s2 bLT Qk Zb rT)
    |k+1,0 =>
     simp at hk Zb aBB Qk;subst Zb;subst Qk;simp at he;exact absurd (hi rT).1 (by rw[<-he];exact aXP k s1 bRB aBB hk hs)
    |k+1,k'+1 =>
     simp at hk Zb he aBB Qk;have:=h3 k k' s1 s2 bRB bLT aBB Qk hk Zb hs rT he;omega
  have Gk:canonGo n0 st (s :: keep) p seen=(.any,none) :: canonGo n0 st keep (p+1) seen->_:=core (.any,none) 0 seen (fun _ h=>h) (fun h=>by simp[claim]at h) (.inl rfl);cases hz:cBH 1000000 s with
  |true =>
   cases hv:aPK st (s%1000000)with
   |none=>exact Gk (by simp only[canonGo,hz,cond_true,hv])
   |some q =>
    obtain⟨i,a⟩:=q;cases aBA:seen.elem i with
    |true=>exact Gk (by simp only[canonGo,hz,cond_true,hv,aBA])
    |false =>
     have Ip:i ∉ seen:=by simpa using aBA
     exact core (a,none) i (i :: seen) (fun _ h=>cBP _ h) (fun _=>⟨cBL ..,Ip⟩) (.inr (.inl ⟨hz,hv,rfl,cDY fun kM=>Ip (hn i kM)⟩)) (by simp only[canonGo,hz,cond_true,hv,aBA,cond_false])
  |false =>
  have aIJ:∀a,claim s (a,none)=true->False:=by
   intro a h;simp[claim,hz]at h
  cases hf:st.fr (s%1000000)with
  |any=>exact Gk (by simp only[canonGo,hz,cond_false,hf])
  |Mf xs=>exact Gk (by simp only[canonGo,hz,cond_false,hf])
  |v x =>
   cases x with
   |agg cs=>exact core (.v (.agg cs),none) 0 seen (fun _ h=>h) (fun h=>(aIJ _ h).elim) (.inr (.inr (.inr (.inr ⟨by rw[hf],by rw[hf];intro i hi;cases hi⟩)))) (by simp only[canonGo,hz,cond_false,hf])
   |one l =>
    cases l with
    |s x=>exact core (.v (.one (.s x)),none) 0 seen (fun _ h=>h) (fun h=>(aIJ _ h).elim) (.inr (.inr (.inr (.inr ⟨by rw[hf],by rw[hf];intro i hi;cases hi⟩)))) (by simp only[canonGo,hz,cond_false,hf])
    |rows sz n f=>exact core (.v (.one (.rows sz n f)),none) 0 seen (fun _ h=>h) (fun h=>(aIJ _ h).elim) (.inr (.inr (.inr (.inr ⟨by rw[hf],by rw[hf];intro i hi;cases hi⟩)))) (by simp only[canonGo,hz,cond_false,hf])
    |Rg cs=>exact core (.v (.one (.Rg cs)),none) 0 seen (fun _ h=>h) (fun h=>(aIJ _ h).elim) (.inr (.inr (.inr (.inr ⟨by rw[hf],by rw[hf];intro i hi;cases hi⟩)))) (by simp only[canonGo,hz,cond_false,hf])
    |Wa k ns=>exact core (.v (.one (.Wa k ns)),none) 0 seen (fun _ h=>h) (fun h=>(aIJ _ h).elim) (.inr (.inr (.inr (.inr ⟨by rw[hf],by rw[hf];intro i hi;cases hi⟩)))) (by simp only[canonGo,hz,cond_false,hf])
    |Uu i j=>exact Gk (by simp only[canonGo,hz,cond_false,hf])
    |view i off n =>
     cases aBA:cBQ i n0 with
     |false=>exact Gk (by simp only[canonGo,hz,hf,aBA,cond_false])
     |true =>
      have kM:i<n0:=by rw[Nat.blt_eq]at aBA;exact aBA
      exact core (.v (.one (.view i off n)),none) 0 seen (fun _ h=>h) (fun h=>(aIJ _ h).elim) (.inr (.inr (.inr (.inr ⟨by rw[hf],by rw[hf];intro j hj;simp[refs,refsV,refsL]at hj;omega⟩)))) (by simp only[canonGo,hz,cond_false,hf,aBA,cond_true])
    |buf i n =>
     cases aBA:seen.elem i with
     |true=>exact Gk (by simp only[canonGo,hz,cond_false,hf,aBA,cond_true])
     |false =>
      have Ip:i ∉ seen:=by simpa using aBA
      exact core (.v (.one (.buf p n)),st.hp i) i (i :: seen) (fun _ h=>cBP _ h) (fun _=>⟨cBL ..,Ip⟩) (.inr (.inr (.inl ⟨n,rfl,hf⟩))) (by simp only[canonGo,hz,hf,aBA,cond_false])
    |ptr i off =>
     match off with
     |0 =>
      cases aBA:seen.elem i with
      |true=>exact Gk (by simp only[canonGo,hz,cond_false,hf,aBA,cond_true])
      |false =>
       have Ip:i ∉ seen:=by simpa using aBA
       exact core (.v (.one (.ptr p 0)),st.hp i) i (i :: seen) (fun _ h=>cBP _ h) (fun _=>⟨cBL ..,Ip⟩) (.inr (.inr (.inr (.inl ⟨rfl,hf⟩)))) (by simp only[canonGo,hz,hf,aBA,cond_false])
     |off+1=>exact Gk (by simp only[canonGo,hz,cond_false,hf])
theorem Js(t:Nat):∀(keep:List Nat) (l:List KV),slotGo t keep l=.any\/∃(k s:Nat) (kv:KV),keep[k]?=some s/\t=s%1000000/\l[k]?=some kv/\slotGo t keep l=kv.1
 | [],_=>.inl (by simp[slotGo])
 |_ :: _,[]=>.inl (by simp[slotGo])
 |s :: keep,kv :: l=>by
  simp only[slotGo];cases hb:cBF t (s%1000000)with
  |true=>exact .inr ⟨0,s,kv,rfl,cBT hb,rfl,rfl⟩
  |false =>
   rcases Js t keep l with h |⟨k,s',Qi,h1,h0,h2,h3⟩
   ·exact .inl h
   ·exact .inr ⟨k+1,s',Qi,by simpa using h1,h0,by simpa using h2,h3⟩
theorem Pg:∀(l:List KV) (i:Nat) (b:kY),blkGo i l=some b->∃kv,l[i]?=some kv/\kv.2=some b
 | [],i,b,h=>by simp[blkGo]at h
 |kv :: l,0,b,h=>⟨kv,rfl,h⟩
 |kv :: l,i+1,b,h=>by
  obtain⟨Qi,h1,h2⟩:=Pg l i b h;exact⟨Qi,by simpa using h1,h2⟩
theorem Ti:∀(l:List KV) (i:Nat) (kv:KV),l[i]?=some kv->blkGo i l=kv.2
 | [],i,kv,h=>by simp at h
 |bVR :: l,0,kv,h=>by simp at h;subst h;rfl
 |bVR :: l,i+1,kv,h=>Ti l i kv (by simpa using h)
theorem Jz(st:St):∀(n i:Nat),(canonIO st n i).length=n
 |0,_=>rfl
 |n+1,i=>by simp[canonIO,Jz st n]
theorem Ka(st:St):∀(n i k:Nat) (r:List KV),k<n->blkGo k (canonIO st n i ++ r)=st.hp (i+k)
 |0,_,_,_,h=>by omega
 |n+1,i,0,r,_=>rfl
 |n+1,i,k+1,r,h=>by
  simp only[canonIO,cCX,blkGo];rw[Ka st n (i+1) k r (by omega)];congr 1;omega
theorem Gs(st:St):∀(n i k:Nat) (r:List KV),blkGo (n+k) (canonIO st n i ++ r)=blkGo k r
 |0,_,k,r=>by simp[canonIO]
 |n+1,i,k,r=>by
  rw[show n+1+k=(n+k)+1 by omega];simp only[canonIO,cCX,blkGo];exact Gs st n (i+1) k r
theorem Jc:∀{n i:Nat},i<n->i∈below n
 |n+1,i,h=>by
  unfold below
  by_cases hi:i=n
  ·subst hi;exact cBL ..
  ·exact cBP _ (Jc (by omega))
theorem Ix{ρ:Nat->Nat}{al:Nat->Prop}{st:St}{a:Act}{w:World}(h:jY E X w0 ρ al st.fr st.hp a w)(keep:List Nat) :
  ∃ρ',jY E X w0 ρ' (fun i=>i<(mk E.n0 keep (canon E.n0 keep st)).n) (mk E.n0 keep (canon E.n0 keep st)).fr (mk E.n0 keep (canon E.n0 keep st)).hp a w:=by
 obtain⟨n0,Dw⟩:∃n0,n0=E.n0:=⟨_,rfl⟩;rw[<-Dw];obtain⟨Uw,h1,h2,h3⟩:=Gt n0 st keep n0 (below n0) (fun x hx=>Jc hx);obtain⟨C,hC⟩:∃C,C=canonGo n0 st keep n0 (below n0):=⟨_,rfl⟩;have bDO:canon n0 keep st=canonIO st n0 0 ++ C:=by rw[hC];rfl
 rw[<-hC]at h1 h2 h3;rw[bDO];have aOY:(canonIO st n0 0 ++ C).drop n0=C:=by
  have:=cDW (l₁:=canonIO st n0 0) (l₂:=C);rwa [Jz]at this
 obtain⟨xA,Uz⟩:∃xA,xA=(mk n0 keep (canonIO st n0 0 ++ C)).hp:=⟨_,rfl⟩;rw[<-Uz];have aCU:∀q,q<n0->xA q=st.hp q:=fun q hq=>by
  rw[Uz];have:=Ka st n0 0 q C hq;rw[cBG]at this;exact this
 have aBC:∀k,xA (n0+k)=blkGo k C:=fun k=>by rw[Uz];exact Gs st n0 0 k C
 have bDR:∀t,(mk n0 keep (canonIO st n0 0 ++ C)).fr t=slotGo t keep C:=fun t=>by
  show slotGo t keep ((canonIO st n0 0 ++ C).drop n0)=_;rw[aOY]
 have hn:(mk n0 keep (canonIO st n0 0 ++ C)).n=n0+keep.length:=rfl;obtain⟨aKX,bHA⟩:∃aKX:Nat->Nat,aKX=fun q=>if q<n0 then q else Uw (q-n0):=⟨_,rfl⟩
 have aSN:∀q,q<n0->aKX q=q:=fun q hq=>by rw[bHA];simp only;rw[if_pos hq]
 have aLE:∀k,aKX (n0+k)=Uw k:=fun k=>by rw[bHA];simp only;rw[aO];congr 1;omega
 have aLA:∀(k:Nat) (b:kY),blkGo k C=some b->k<keep.length/\st.hp (Uw k)=some b/\n0<=Uw k/\∃kv,C[k]?=some kv/\kv.2=some b:=by
  intro q b hq;obtain⟨kv,hk,hb⟩:=Pg _ q b hq;have kM:q<keep.length:=by have:=aX hk;omega
  obtain⟨s,hs⟩:=bG kM;obtain⟨Qi,e1,e2,e3⟩:=h2 q s hs;rw[hk]at e1;cases e1;refine⟨kM,?_,?_,kv,hk,hb⟩
  ·rcases e2 with rfl |⟨_,_,h9,_⟩ |⟨n,rfl,_⟩ |⟨rfl,_⟩ |⟨rfl,_⟩
   ·cases hb
   ·rw[h9]at hb;cases hb
   ·exact hb
   ·exact hb
   ·cases hb
  ·have:=e3 (by unfold claim;rw[hb];rfl);rcases cBU (Uw q) n0 with h4 |h4
   ·exact absurd (Jc h4) this
   ·exact h4
 have Zd:∀(q:Nat) (b:kY),xA q=some b->st.hp (aKX q)=some b/\q<n0+keep.length:=by
  intro q b hq;rcases cBU q n0 with h4 |h4
  ·rw[aCU q h4]at hq;exact⟨by rw[aSN q h4];exact hq,by omega⟩
  ·obtain⟨k,rfl⟩:=cCJ h4;rw[aBC]at hq;obtain⟨h5,h6,_⟩:=aLA k b hq;exact⟨by rw[aLE];exact h6,by omega⟩
 have uK:∀b,XO X (fun q=>ρ (aKX q)) xA b->XO X ρ st.hp b:=by
  rintro b (hb |⟨q,bl,h4,h5⟩)
  ·exact .inl hb
  ·exact .inr ⟨aKX q,bl,(Zd q bl h4).1,h5⟩
 have hl:iT (XO X ρ st.hp) w (XO X (fun q=>ρ (aKX q)) xA) w:=⟨cBE _,fun b _ hx=>⟨rfl,fun hb=>hx (uK b hb)⟩⟩;have key:∀t,xW (fun q=>ρ (aKX q)) xA (XO X (fun q=>ρ (aKX q)) xA) w (slotGo t keep C) (a.tmps.getD t undef)/\∀i∈refs (slotGo t keep C),i<n0+keep.length:=by
  intro t;rcases Js t keep C with he |⟨k,s,kv,hk,bJM,bJX,he⟩
  ·rw[he];exact⟨trivial,by simp[refs]⟩
  ·rw[he];obtain⟨Qi,e1,e2,e3⟩:=h2 k s hk;rw[bJX]at e1;cases e1;have kM:=aX hk;have hr:=h.fr t;have bHN:=Ti _ k kv bJX;unfold Mb at e2;rw[<-bJM]at e2;rcases e2 with rfl |⟨hz,hfz,h9,bTI⟩ |⟨n,rfl,hf⟩ |⟨rfl,hf⟩ |⟨rfl,hf⟩
   ·exact⟨trivial,by simp[refs]⟩
   ·obtain⟨n,sz,f,hf,ha,hd⟩:=aJI hfz;rw[hf]at hr;have aJF:claim s kv=true:=by unfold claim;rw[hz,ha];simp
    have bWQ:=Hq h (u:=[(Uw k,none)]) (fun p hp=>by simp at hp;rw[hp]) hr (fun i hi=>by simp[refs,refsV,refsL]at hi;rw[hi];simp) hd;rw[ha];refine⟨mY.later (d:=.rows sz n f) ⟨cBE _,fun b _ hx=>⟨rfl,fun hb=>hx ?_⟩⟩ bWQ,by intro i hi;cases hi⟩;rcases hb with hb |⟨q,bl,h4,h5⟩
    ·exact .inl hb
    ·have h6:=Zd q bl h4;refine .inr ⟨aKX q,bl,?_,h5⟩;simp only[applyUps];rw[gB _ _ ?_]
     ·exact h6.1
     ·intro hq;rcases cBU q n0 with h7 |h7
      ·rw[aSN q h7]at hq;omega
      ·obtain⟨k',rfl⟩:=cCJ h7;rw[aBC]at h4;obtain⟨h8,_,_,Qi,Zb,aOQ⟩:=aLA k' bl h4;obtain⟨s',rT⟩:=bG h8;rw[aLE]at hq;have:=h3 k' k s' s Qi kv rT hk Zb bJX (by unfold claim;rw[aOQ];rfl) aJF hq;subst this;rw[bJX]at Zb;cases Zb;rw[h9]at aOQ;cases aOQ
   ·rw[hf]at hr;obtain⟨cap,hv,Dv,hc,aXX⟩:=hr;refine⟨⟨cap,by simp only[aLE];exact hv,Dv,fun blk k1 ns hb Ko=>?_,fun blk cs hb Ko=>?_⟩,?_⟩
    ·rw[aBC,bHN]at hb;have:=hc blk k1 ns hb Ko;simp only[aLE];exact this
    ·rw[aBC,bHN]at hb;have:=aXX blk cs hb Ko;simp only[aLE];exact this
    ·intro i hi;simp[refs,refsV,refsL]at hi;omega
   ·rw[hf]at hr;refine⟨?_,?_⟩
    ·show _=_;simp only[aLE];exact hr
    ·intro i hi;simp[refs,refsV,refsL]at hi;omega
   ·refine⟨xW.later (al:=fun i=>i<n0) hl (fun i hi=>⟨by simp only[aSN i hi],fun b' tR=>⟨b',by rw[<-aCU i hi];exact tR,sameShape.refl _,rfl⟩⟩) hf hr,fun i hi=>?_⟩;have:=hf i hi;omega
 refine⟨fun q=>ρ (aKX q),{ fr:=fun t=>by rw[bDR];exact(key t).1,sz:=h.sz,nod:=h.nod,blk:=?_,inj:=?_,alh:=?_,alr:=fun t i hi=>by rw[bDR]at hi;exact(key t).2 i hi,below:=h.below,x0:=h.x0,glob:=h.glob,mg:=h.mg,al0:=fun i hi=>by show i<n0+keep.length;omega,xF:=fun i hi=>by simp only[aSN i (by omega)];exact h.xF i hi }⟩
 ·intro q b hq;have hb:=(Zd q b hq).1;refine⟨?_,(h.blk _ b hb).2.later hl rfl⟩;rcases cBU q n0 with h4 |h4
  ·have:=(h.blk _ b hb).1;simp only[aSN q h4]at this ⊢;exact this
  ·obtain⟨k,rfl⟩:=cCJ h4;rw[aBC]at hq;obtain⟨_,_,h6,_⟩:=aLA k b hq;exact .inl ((h.blk _ b hb).1.new (by rw[aLE];omega))
 ·intro q q' b b' hq aGL he;have hb:=(Zd q b hq).1;have tR:=(Zd q' b' aGL).1;have aUV:=h.inj _ _ b b' hb tR he;rcases cBU q n0 with h4 |h4
  ·rcases cBU q' n0 with h5 |h5
   ·rw[aSN q h4,aSN q' h5]at aUV;exact aUV
   ·obtain⟨k,rfl⟩:=cCJ h5;rw[aBC]at aGL;obtain⟨_,_,h6,_⟩:=aLA k b' aGL;rw[aSN q h4,aLE]at aUV;omega
  ·obtain⟨k,rfl⟩:=cCJ h4;rw[aBC]at hq;obtain⟨_,_,h6,kv,hk,bXN⟩:=aLA k b hq;rcases cBU q' n0 with h5 |h5
   ·rw[aSN q' h5,aLE]at aUV;omega
   ·obtain⟨k',rfl⟩:=cCJ h5;rw[aBC]at aGL;obtain⟨_,_,_,Qi,Zb,aOQ⟩:=aLA k' b' aGL;rw[aLE,aLE]at aUV;obtain⟨s1,aBB⟩:=bG (l:=keep) (i:=k) (by have:=aX hk;omega);obtain⟨s2,Qk⟩:=bG (l:=keep) (i:=k') (by have:=aX Zb;omega);have:=h3 k k' s1 s2 kv Qi aBB Qk hk Zb (by unfold claim;rw[bXN];rfl) (by unfold claim;rw[aOQ];rfl) aUV;omega
 ·intro q b hq;exact(Zd q b hq).2
def exitOf:Ex->Exit
 | .normal=>.normal
 | .exit id=>.exit id
 | .ret=>.ret
def KQ{R:Type}(E:Env)(X:Nat->Prop)(w0:Old)(K:Ex->St->Option R)(Q:Exit->Act->World->Prop)(r:R):Prop :=
 ∀(ex:Ex) (st:St) (ρ:Nat->Nat) (a:Act) (w:World),K ex st=some r->jY E X w0 ρ (fun i=>i<st.n) st.fr st.hp a w->Q (exitOf ex) a w
theorem Bm{R:Type}{c:Code}{keep:List Nat}{r:R}{Q:Exit->Act->World->Prop}{K:Ex->St->Option R}(bOY:KQ E X w0 K Q r)
  (ih:∀(st:St) (K:Ex->St->Option R) (Q:Exit->Act->World->Prop) (ρ:Nat->Nat) (a:Act) (w:World),jY E X w0 ρ (fun i=>i<st.n) st.fr st.hp a w->evalCode E c st K=some r->KQ E X w0 K Q r->c.wp P Q a w) :
  ∀(n:Nat) (l:List KV) (ρ:Nat->Nat) (a:Act) (w:World),iter (fun rec l=>evalCode E c (mk E.n0 keep l) fun ex gE=>match ex with
    | .normal=>rec (canon E.n0 keep gE)
    | .exit i=>K (.exit i) gE
    | .ret=>K .ret gE) n l=some r->jY E X w0 ρ (fun i=>i<(mk E.n0 keep l).n) (mk E.n0 keep l).fr (mk E.n0 keep l).hp a w->Code.rounds P c Q n a w
 |0,l,ρ,a,w,h,_=>by cases h
 |n+1,l,ρ,a,w,h,hs=>by
  rw[rounds_succ];refine ih (mk E.n0 keep l) _ _ ρ a w hs h ?_;intro ex gE ρ' a' w' he rT;cases ex with
  |normal =>
   obtain⟨ρ2,Qk⟩:=Ix rT keep;exact Bm bOY ih n _ ρ2 a' w' he Qk
  |exit i=>exact bOY (.exit i) gE ρ' a' w' he rT
  |ret=>exact bOY .ret gE ρ' a' w' he rT
theorem aPL{α R:Type}{G:(α->Option R)->α->Option R}{x:α}{r:R}(h:fix G x=some r):∃n,iter G n x=some r:=by
 unfold fix at h;split at h
 ·rename_i hex;cases h;exact Classical.choose_spec hex
 ·cases h
theorem aDM(hT:pK P E.T)(hC:kX P E)(hm:P.follows .mixedOrders=true){R:Type}(r:R):∀(c:Code) (st:St) (K:Ex->St->Option R) (Q:Exit->Act->World->Prop) (ρ:Nat->Nat) (a:Act) (w:World),
  jY E X w0 ρ (fun i=>i<st.n) st.fr st.hp a w->evalCode E c st K=some r->KQ E X w0 K Q r->c.wp P Q a w:=by
 intro c
 induction c with
 |skip=>intro st K Q ρ a w hs he hK;exact wp_skip (hK .normal st ρ a w he hs)
 |label l=>intro st K Q ρ a w hs he hK;exact wp_label (hK .normal st ρ a w he hs)
 |exit id=>intro st K Q ρ a w hs he hK;exact wp_exit (hK (.exit id) st ρ a w he hs)
 |ret=>intro st K Q ρ a w hs he hK;exact wp_ret (hK .ret st ρ a w he hs)
 |region id ops draw =>
  intro st K Q ρ a w hs he hK;unfold evalCode at he;exact Ue hT hC hm hs he Q (fun gE ρ' a' w' hk rT=>hK .normal _ ρ' a' w' hk rT)
 |seq x y bJG bFK =>
  intro st K Q ρ a w hs he hK;unfold evalCode at he;refine wp_seq (bJG st _ _ ρ a w hs he ?_);intro ex gE ρ' a' w' hk rT;cases ex with
  |normal =>
   simp only at hk;split at hk
   ·rename_i keep _;obtain⟨ρ2,Qk⟩:=Ix rT keep;unfold Dj at hk;exact bFK _ K Q ρ2 a' w' Qk hk hK
   ·exact bFK gE K Q ρ' a' w' rT hk hK
  |exit i=>exact hK (.exit i) gE ρ' a' w' hk rT
  |ret=>exact hK .ret gE ρ' a' w' hk rT
 |cond c x y bJG bFK =>
  intro st K Q ρ a w hs he hK;unfold evalCode at he;split at he
  ·rename_i s;split at he
   ·rename_i t ht;have hr:=hs.fr s;rw[ht]at hr;have hv:a.eval (.tmp s)=.bool t:=hr.1;have e0:Cy st.fr s (Dr (.bool t))=st.fr:=aEN st.fr s t ht;refine wp_cond hv ?_;cases t with
    |true=>simp only[cond_true,e0]at he;exact bJG _ K Q ρ a w hs he hK
    |false=>simp only[cond_false,e0]at he;exact bFK _ K Q ρ a w hs he hK
   ·cases he
  ·rename_i t;refine wp_cond (t:=t) rfl ?_;cases t with
   |true=>simp only[cond_true]at he;exact bJG _ K Q ρ a w hs he hK
   |false=>simp only[cond_false]at he;exact bFK _ K Q ρ a w hs he hK
  ·cases he
 |block id c ih =>
  intro st K Q ρ a w hs he hK;unfold evalCode at he;refine wp_block (ih st _ _ ρ a w hs he ?_);intro ex gE ρ' a' w' hk rT;cases ex with
  |normal=>exact hK .normal gE ρ' a' w' hk rT
  |ret=>exact hK .ret gE ρ' a' w' hk rT
  |exit i =>
   simp only[exitOf,Exit.inBlock];simp only at hk;cases hb:cBF i id with
   |true =>
    rw[hb]at hk;rw[if_pos (cBT hb)];exact hK .normal gE ρ' a' w' hk rT
   |false =>
    rw[hb]at hk;rw[if_neg (cDI hb)];exact hK (.exit i) gE ρ' a' w' hk rT
 |loop c ih =>
  intro st K Q ρ a w hs he hK;unfold evalCode at he;obtain⟨ρ2,Qk⟩:=Ix hs (E.keep (keyOf c));split at he
  ·rename_i n _;exact wp_loop_rounds n (Bm hK ih n _ ρ2 a w he Qk)
  ·obtain⟨n,hn⟩:=aPL he;exact wp_loop_rounds n (Bm hK ih n _ ρ2 a w hn Qk)
 |rangeFunc f ps x y _ _=>intro st K Q ρ a w hs he hK;unfold evalCode at he;cases he
 |scope c ih =>
  intro st K Q ρ a w hs he hK;unfold evalCode at he;refine wp_scope_straight (ih st K _ ρ a w hs he ?_);intro ex gE ρ' a' w' hk rT;have:=hK ex gE ρ' a' w' hk rT;cases ex <;> exact this
 |goto l=>intro st K Q ρ a w hs he hK;unfold evalCode at he;cases he
 |refuse bQO=>intro st K Q ρ a w hs he hK;unfold evalCode at he;cases he
end
end AI
end Go.Proofs.YtplagoepbghhpaaGreatDoor
end
