/- Contracts of functions (their ground), for the claim on TurnRatio. -/
import Derived.WalkKit
import Derived.Laws.CopyOwn
import Derived.LoopN
import Derived.Laws.StructEq
import Derived.Scope
set_option linter.unusedVariables false
set_option linter.unusedSimpArgs false
noncomputable section
open Go.IntKind(i8 i16 i32 i64 u8 u16 u32 u64)
open List renaming map_cons->bNA,getElem?_map->bNF,getElem?_take_of_lt->bNG,mem_cons_self->bNI,mem_of_getElem?->bNK,getElem?_drop->bNN,getElem?_eq_getElem->bNR,mem_singleton->bNS,map_nil->bNT,mem_cons_of_mem->bNU,map_toArray->bNW,getElem?_of_mem->bNZ,map_append->bOA,mem_append->bOD,length_append->bOE,mem_cons->bOH,mapM_cons->bOI,range->bOL,getElem?_append_left->bOM,getElem?_append_right->bON,size_toArray->bOP,take_left->bOQ,map_congr_left->bOR,cons_append->bOT,length_map->bOU,getD->bOV,append_assoc->bOW,getElem?_eq_none->bOX,getElem?_cons_succ->bOY,Pairwise->bPA,mem_range->bPD,replicate->bPE,eq_nil_of_length_eq_zero->bPQ,length_take->bPR,mem_append_right->bPS,drop_left->bPT,flatMap_def->bPW
open Nat renaming le_refl->bNB,beq->bNC,zero_add->bND,ble->bNE,mul_one->bNL,blt->bNM,eq_of_beq_eq_true->bNP,lt_or_ge->bNQ,add_mul->bNV,le_trans->bNX,lt_of_lt_of_le->bOB,add_zero->bOC,exists_eq_add_of_le->bOG,mul_le_mul_right->bOO,le_of_ble_eq_true->bOZ,ne_of_beq_eq_false->bPF,le_mul_of_pos_right->bPK,mul_le_mul_left->bPP,add_one_ne_zero->bPY,add_sub_cancel->bPZ
open Bool renaming and_eq_true->bNH,not_eq_true'->bOJ,or_eq_true->bOK,not_true->bPB,false_or->bPC
open Option renaming bind_assoc->bNJ,map_some->bNO,map_eq_some_iff->bOF,bind_some->bOS,bind_eq_bind->bPG,pure_def->bPH,bind_eq_some_iff->bPI,map_none->bPM,getD_some->bPX
open Int renaming mul_le_mul_of_nonneg_right->bPL
namespace Go.Proofs.YtcnlagnipklcmaaGreatDoor
theorem aT{α:Sort _}{c:Prop}[Decidable c]{a b:α}(h:c:=by omega):ite c a b=a:=if_pos h
theorem aX{α:Sort _}{c:Prop}[Decidable c]{a b:α}(h:¬c:=by omega):ite c a b=b:=if_neg h
theorem cI{a n:Nat}(h:0<a:=by omega):0<a^n:=Nat.pow_pos h
theorem fY{b m n:Nat}(h:0<b:=by omega)(h':m<=n:=by omega):b^m<=b^n:=Nat.pow_le_pow_right h h'
namespace M
open Go
theorem Dq(n:Int):i64.wrap n=if n%18446744073709551616>=9223372036854775808 then n%18446744073709551616-18446744073709551616 else n%18446744073709551616:=by
 show(if(true&&decide (n%18446744073709551616>=9223372036854775808))=true then n%18446744073709551616-18446744073709551616 else n%18446744073709551616)=_;simp only[Bool.true_and,decide_eq_true_eq]
theorem wrap_i64{n:Int}(h:-9223372036854775808<=n:=by omega)(h':n<9223372036854775808:=by omega):i64.wrap n=n:=by
 rw[Dq];split <;> omega
theorem eG(n:Int):u64.wrap n=n%18446744073709551616:=by
 show(if(false&&decide (n%18446744073709551616>=9223372036854775808))=true then n%18446744073709551616-18446744073709551616 else n%18446744073709551616)=_;simp
theorem wrap_u64{n:Int}(h:0<=n:=by omega)(h':n<18446744073709551616:=by omega):u64.wrap n=n:=by
 rw[eG];omega
theorem wrap_u32(n:Int):u32.wrap n=n%4294967296:=by
 show(if(false&&decide (n%4294967296>=2147483648))=true then n%4294967296-4294967296 else n%4294967296)=_;simp
end M
namespace AI
open Go Go.RowKit
def leB:Int->Int->Bool
 | .ofNat m,.ofNat n=>bNE m n
 | .negSucc _,.ofNat _=>true
 | .ofNat _,.negSucc _=>false
 | .negSucc m,.negSucc n=>bNE n m
theorem Fo(a b:Int):leB a b=true↔a<=b:=by
 cases a <;> cases b <;> simp only[leB,Nat.ble_eq,Bool.false_eq_true,true_iff,false_iff,Int.ofNat_eq_natCast] <;> omega
instance (priority:=2000) decLeI (a b:Int):Decidable (a<=b):=match h:leB a b with
 |true=>isTrue ((Fo a b).1 h)
 |false=>isFalse fun h'=>by rw[(Fo a b).2 h']at h;cases h
instance (priority := 2000) decLtI (a b : Int) : Decidable (a < b) := match h : leB b a with
  | true => isFalse fun h' => by have := (Fo b a).1 h; omega
  | false => isTrue (by have h1 : ¬ b ≤ a := fun h' => by rw [(Fo b a).2 h'] at h; cases h
                        omega)
inductive S where
 |sc (v:Value)
 |ints (k:IntKind) (ns:List Int)
 |bot
inductive L where
 |s (x:S)
 |rows (sz n:Nat) (f:Nat->List S)
 |Jw (cs:List S)
 |Of (k:IntKind) (ns:List Int)
 |ptr (id off:Nat)
 |Mu (id i:Nat)
 |buf (id n:Nat)
 |view (id off n:Nat)
inductive V where
 |one (l:L)
 |agg (cs:List S)
inductive A where
 |v (x:V)
 |Iy (xs:List V)
 |any
inductive rH where
 |ints (k:IntKind) (ns:List Int)
 |cells (cs:List S)
structure iM where
 e:TypeId
 cont:rH
structure St where
 fr:Nat->A
 hp:Nat->Option iM
 n:Nat
inductive D where
 |s (x:S)
 |rows (sz n:Nat) (f:Nat->List S)
 |agg (cs:List S)
 |own (e:TypeId) (k:IntKind) (ns:List Int)
 |io (e:TypeId) (k:IntKind) (ns:List Int) (off n:Nat)
 |back (i off n:Nat)
inductive TK where
 |bool
 |int (k:IntKind)
 |float (k:FloatKind)
 |other
 |struct (fs:List (Nat×Nat×Bool))
 |arr (len nV:Nat) (eagg:Bool)
 |slice (elem:TypeId)
 |str
structure TI where
 size:Nat
 bytes:Nat
 zero:List Value
 kind:TK
def TK.isAgg:TK->Bool
 | .struct _=>true
 | .arr _ _ _=>true
 |_=>false
abbrev yN(v:Value):A:=.v (.one (.s (.sc v)))
abbrev xU{α:Type}(f:Nat->α)(d:Nat)(a:α):Nat->α:=fun i=>bif bNC i d then a else f i
def bitsI0(op:BinOp)(k:IntKind)(x y:Int):Int :=
 match op with
 | .and=>k.wrap (BitVec.ofInt k.bits x &&& BitVec.ofInt k.bits y).toNat
 | .or=>k.wrap (BitVec.ofInt k.bits x |||BitVec.ofInt k.bits y).toNat
 | .xor=>k.wrap (BitVec.ofInt k.bits x ^^^ BitVec.ofInt k.bits y).toNat
 |_=>k.wrap (BitVec.ofInt k.bits x &&& ~~~(BitVec.ofInt k.bits y)).toNat
theorem Rr:∃f:BinOp->IntKind->Int->Int->Int,f=bitsI0:=⟨_,rfl⟩
def eY:BinOp->IntKind->Int->Int->Int:=Classical.choose Rr
theorem sF:eY=bitsI0:=Classical.choose_spec Rr
def binK{R:Type}(op:BinOp)(x y:Value)(K:Value->Option R):Option R :=
 match x,y with
 | .int k a,.int k' b =>
  match op with
  | .shl=>if b<0 then none else K (.int k (k.wrap (a*((2^(min b.toNat k.bits):Nat):Int))))
  | .shr=>if b<0 then none else K (.int k (a/((2^(min b.toNat k.bits):Nat):Int)))
  | .add=>if k=k' then K (.int k (k.wrap (a+b)))else none
  | .sub=>if k=k' then K (.int k (k.wrap (a-b)))else none
  | .mul=>if k=k' then K (.int k (k.wrap (a*b)))else none
  | .quo=>if k=k' then(if b=0 then none else K (.int k (k.wrap (a.tdiv b))))else none
  | .rem=>if k=k' then(if b=0 then none else K (.int k (a.tmod b)))else none
  | .and=>if k=k' then K (.int k (eY .and k a b))else none
  | .or=>if k=k' then K (.int k (eY .or k a b))else none
  | .xor=>if k=k' then K (.int k (eY .xor k a b))else none
  | .andNot=>if k=k' then K (.int k (eY .andNot k a b))else none
  | .eql=>if k=k' then K (.bool (a==b))else none
  | .neq=>if k=k' then K (.bool (a !=b))else none
  | .lss=>if k=k' then K (.bool (decide (a<b)))else none
  | .leq=>if k=k' then K (.bool (decide (a<=b)))else none
  | .gtr=>if k=k' then K (.bool (decide (b<a)))else none
  | .geq=>if k=k' then K (.bool (decide (b<=a)))else none
 | .float k a,.float k' b =>
  match op with
  | .add=>if k=k' then(k.format.add a b).bind fun r=>K (.float k r)else none
  | .sub=>if k=k' then(k.format.sub a b).bind fun r=>K (.float k r)else none
  | .mul=>if k=k' then(k.format.mul a b).bind fun r=>K (.float k r)else none
  | .quo=>if k=k' then(k.format.div a b).bind fun r=>K (.float k r)else none
  | .eql=>if k=k' then K (.bool (k.format.order a b==some .eq))else none
  | .neq=>if k=k' then K (.bool (k.format.order a b !=some .eq))else none
  | .lss=>if k=k' then K (.bool (k.format.order a b==some .lt))else none
  | .leq=>if k=k' then K (.bool (k.format.order a b==some .lt||k.format.order a b==some .eq))else none
  | .gtr=>if k=k' then K (.bool (k.format.order a b==some .gt))else none
  | .geq=>if k=k' then K (.bool (k.format.order a b==some .gt||k.format.order a b==some .eq))else none
  |_=>none
 | .bool a,.bool b =>
  match op with
  | .eql=>K (.bool (a==b))
  | .neq=>K (.bool (a !=b))
  |_=>none
 |_,_=>none
def boolT(t:Option TI)(a:Value):Bool:=match a with
 | .bool _=>match t with
  |some ⟨_,_,_,.bool⟩=>true
  |_=>false
 |_=>true
def unK{R:Type}(op:UnOp)(x:Value)(K:Value->Option R):Option R :=
 match op,x with
 | .neg,.int k n=>K (.int k (k.wrap (0-n)))
 | .xor,.int k n=>K (.int k (eY .xor k (if k.signed then -1 else k.max) n))
 | .neg,.float k b=>K (.float k (Op.negFloat k b))
 | .not,.bool b=>K (.bool (!b))
 |_,_=>none
def convK{R:Type}(dst:TK)(x:Value)(K:Value->Option R):Option R :=
 match dst,x with
 | .int k,.int _ n=>K (.int k (k.wrap n))
 | .float k,.int _ n=>K (.float k (k.nearest n))
 | .int k,.float s b=>((s.decode b).toInt .zero).bind fun n=>if k.min<=n/\n<=k.max then K (.int k n)else none
 | .float k,.float s b=>if s=k then K (.float k b)else none
 |_,_=>none
def refsL:L->List Nat
 | .ptr id _=>[id]
 | .Mu id _=>[id]
 | .buf id _=>[id]
 | .view id _ _=>[id]
 |_=>[]
def refsV:V->List Nat
 | .one l=>refsL l
 | .agg _=>[]
def refs:A->List Nat
 | .v x=>refsV x
 | .Iy xs=>xs.flatMap refsV
 | .any=>[]
def cellsOf(hp:Nat->Option iM):A->Option (List S×List (Nat×Option iM))
 | .v (.agg cs)=>some (cs,[])
 | .v (.one (.s x))=>some ([x],[])
 | .v (.one (.buf id _))=>match hp id with
  |some ⟨_,.ints k ns⟩=>some ([.ints k ns],[(id,none)])
  |_=>none
 | .v (.one (.view id off n))=>match hp id with
  |some ⟨_,.ints k ns⟩=>some ([.ints k ((ns.drop off).take n)],[(id,none)])
  |_=>none
 |_=>none
def toD(hp:Nat->Option iM):A->Option D
 | .v (.agg cs)=>some (.agg cs)
 | .v (.one (.s x))=>some (.s x)
 | .v (.one (.rows sz n f))=>some (.rows sz n f)
 | .v (.one (.buf id n))=>match hp id with
  |some ⟨_,.ints k ns⟩=>some (.s (.ints k ns))
  |some ⟨_,.cells cs⟩=>if n*(cs.length/n)=cs.length/\0<n then some (.rows (cs.length/n) n fun i=>(cs.drop (i*(cs.length/n))).take (cs.length/n))else none
  |none=>none
 | .v (.one (.view id off n))=>match hp id with
  |some ⟨_,.ints k ns⟩=>some (.s (.ints k ((ns.drop off).take n)))
  |_=>none
 |_=>none
def setAt(cs:List S)(off:Nat)(new:List S):List S:=cs.take off ++ (new ++ cs.drop (off+new.length))
def fillK{R:Type}(hp:Nat->Option iM)(place:Nat->Option (Nat×Nat))(ev:Operand->A):List (Nat×Operand)->List S->List (Nat×Option iM)->(List S->List (Nat×Option iM)->Option R)->Option R
 | [],cs,aIB,K=>K cs aIB
 | (i,x) :: rest,cs,aIB,K =>
  match place i,cellsOf hp (ev x)with
  |some (off,size),some (new,u)=>if new.length=size/\off+new.length<=cs.length then fillK hp place ev rest (setAt cs off new) (aIB ++ u) K else none
  |_,_=>none
def partOf(ti:TI)(cs:List S)(off:Nat):Option V :=
 if _g:ti.kind.isAgg=true then(if _h:off+ti.size<=cs.length then some (.agg ((cs.drop off).take ti.size))else none)
 else match cs[off]? with
  |some c=>some (.one (.s c))
  |none=>none
def allInts(k:IntKind):List S->Option (List Int)
 | []=>some []
 | .sc (.int k' n) :: r=>if _h:k=k' then(allInts k r).map (n :: ·)else none
 |_ :: _=>none
def intsOf(hp:Nat->Option iM)(k:IntKind):A->Option (List Int)
 | .v (.one (.s (.ints k' ns)))=>if _h:k=k' then some ns else none
 | .v (.one (.s (.sc (.slice none 0 0))))=>some []
 | .v (.one (.buf id _))=>match hp id with
  |some ⟨_,.ints k' ns⟩=>if _h:k=k' then some ns else none
  |_=>none
 | .v (.one (.view id off n))=>match hp id with
  |some ⟨_,.ints k' ns⟩=>if _h:k=k' then some ((ns.drop off).take n)else none
  |_=>none
 |_=>none
def room:Int:=8796093022208
def takeIn(keep:Bool)(id:Nat):D->V×List (Nat×Option iM)
 | .s x=>(.one (.s x),[])
 | .rows sz n f=>(.one (.rows sz n f),[])
 | .agg cs=>(.agg cs,[])
 | .own e k ns=>bif keep then(.one (.buf id ns.length),[(id,some ⟨e,.ints k ns⟩)])else(.one (.s (.ints k ns)),[])
 | .io _ _ _ _ _=>(.one (.s .bot),[])
 | .back i off n=>(.one (.view i off n),[])
def takeAll(keep:Bool)(id:Nat):List D->List V×List (Nat×Option iM)
 | []=>([],[])
 |d :: r=>((takeIn keep id d).1 :: (takeAll keep (id+1) r).1,(takeIn keep id d).2 ++ (takeAll keep (id+1) r).2)
def Ff:S->Bool
 | .ints _ _=>true
 | .bot=>true
 | .sc (.slice (some _) _ _)=>true
 |_=>false
def shares:D->Bool
 | .s x=>Ff x
 | .rows _ _ _=>true
 | .agg cs=>cs.any Ff
 | .own _ _ _=>false
 | .io _ _ _ _ _=>true
 | .back _ _ _=>false
structure Env where
 T:TypeId->Option TI
 C:FuncId->List D->Option (Prop×List D)
 ext:FuncId->List Value->Option (Prop×List Value)
 glob:Nat->Option (IntKind×List Int)
 nt:Nat
 own:List Nat
 keep:Nat->List Nat
 roll:Nat->Option Nat
 cut:Nat->Option (List Nat)
 n0:Nat:=0
 io:List Nat:=[]
 ioF:FuncId->List Nat:=fun _=>[]
 wide:Option IntKind:=none
 short:Bool:=false
def wideS(w:Option IntKind)(v:Value):S:=match w with
 |none=>.sc v
 |some k=>match v with
  | .slice none 0 0=>.ints k []
  |v=>.sc v
def evA(E:Env)(fr:Nat->A):Operand->A
 | .tmp t=>fr t
 | .const v=>if _h:v.oneCell'=true then yN v else .any
 | .global g=>match E.glob g with
  |some (k,ns)=>.v (.one (.Of k ns))
  |none=>.any
 | .func f=>yN (.func (.func f) #[] #[])
def funOf:A->Option FuncId
 | .v (.one (.s (.sc (.func (.func f) ⟨[]⟩ ⟨[]⟩))))=>some f
 |_=>none
abbrev oC:=List (Nat×Option iM)
def bndA(d:Int):Option A->Option Int
 |none=>some d
 |some (.v (.one (.s (.sc (.int _ n)))))=>some n
 |_=>none
def sliceK{R:Type}(len:Nat)(lo hi mx:Option A)(K:Nat->Nat->Option R):Option R :=
 match bndA 0 lo,bndA len hi,mx with
 |some l,some h,none=>if 0<=l/\l<=h/\h<=len then K l.toNat h.toNat else none
 |some l,some h,some mx=>match hi,bndA len (some mx)with
  |some _,some m=>if 0<=l/\l<=h/\h<=m/\m<=len then K l.toNat h.toNat else none
  |_,_=>none
 |_,_,_=>none
abbrev aB{R:Type}(b:Bool)(x y:Option R):Option R:=bif b then x else y
def splitN{R:Type}(n:Int):Nat->Nat->(Nat->Option R)->Option R
 |0,_,_=>none
 |m+1,j,K=>aB (decide (n=(j:Int))) (K j) (splitN n m (j+1) K)
def idxK{R:Type}(hp:Nat->Option iM)(t:TI)(nV:Nat)(x:A)(n:Int)(K:A->Option R):Option R :=
 match x with
 | .v (.one (.s (.ints k ns)))=>if nV=1 then(if 0<=n/\n<(ns.length:Int)then K (.v (.one (.Jw [.sc (.int k (ns.getD n.toNat 0))])))else none)else none
 | .v (.one (.buf id m))=>match hp id with
  |some ⟨_,.ints _ _⟩=>if nV=1 then(if 0<=n/\n<(m:Int)then K (.v (.one (.Mu id n.toNat)))else none)else none
  |some ⟨_,.cells _⟩=>if 0<=n/\n<(m:Int)then K (.v (.one (.ptr id (n.toNat*nV))))else none
  |none=>none
 | .v (.one (.view id off m))=>match hp id with
  |some ⟨_,.ints _ _⟩=>if nV=1 then(if 0<=n/\n<(m:Int)then K (.v (.one (.Mu id (off+n.toNat))))else none)else none
  |_=>none
 | .v (.one (.rows sz m f))=>if sz=nV then(if 0<=n/\n<(m:Int)then K (.v (.one (.Jw (f n.toNat))))else none)else none
 | .v (.one (.ptr id off))=>match t.kind with
  | .arr len _ _=>bif bNE len 8 then splitN n len 0 (fun j=>K (.v (.one (.ptr id (off+j*nV)))))else if 0<=n/\n<(len:Int)then K (.v (.one (.ptr id (off+n.toNat*nV))))else none
  |_=>none
 | .v (.one (.Of k ns))=>match t.kind with
  | .arr len _ _=>if ns.length=len/\nV=1 then(if 0<=n/\n<(len:Int)then K (.v (.one (.Jw [.sc (.int k (ns.getD n.toNat 0))])))else none)else none
  |_=>none
 |_=>none
def Mv{R:Type}(sh:Bool)(hp:Nat->Option iM)(t:TI)(nV:Nat)(x:A)(n:Int)(K:A->Option R):Option R:=match sh,x with
 |true,.v (.one (.buf id m))=>match hp id with
  |some ⟨_,.cells cs⟩=>splitN n (cs.length/nV) 0 fun j=>idxK hp t nV (.v (.one (.buf id m))) (j:Int) K
  |_=>idxK hp t nV (.v (.one (.buf id m))) n K
 |_,x=>idxK hp t nV x n K
def intArg:A->Option (IntKind×Int)
 | .v (.one (.s (.sc (.int k n))))=>some (k,n)
 |_=>none
def foldMM(op:BinOp)(k:IntKind):Int->List A->Option Int
 |n,[]=>some n
 |n,.v (.one (.s (.sc (.int k' m)))) :: r=>if _h:k=k' then foldMM op k (match op with | .gtr=>if m>n then m else n |_=>if m<n then m else n) r else none
 |_,_=>none
def lenA:A->Option Nat
 | .v (.one (.s (.ints _ ns)))=>some ns.length
 | .v (.one (.s (.sc (.slice none 0 0))))=>some 0
 | .v (.one (.buf _ n))=>some n
 | .v (.one (.view _ _ n))=>some n
 | .v (.one (.rows _ n _))=>some n
 |_=>none
def argVals:List A->Option (List Value)
 | []=>some []
 | .v (.one (.s (.sc v))) :: r=>(argVals r).map (v :: ·)
 |_ :: _=>none
def Du(s:ByteArray)(n:Int):Int:=match s[n.toNat]? with
 |some b=>b.toNat
 |none=>0
def aSM:List Value->A
 | [v]=>yN v
 |vs=>.Iy (vs.map fun v=>.one (.s (.sc v)))
def keepOf(E:Env)(o:Oper):Bool:=match o.dst with
 |some d=>E.own.contains d
 |none=>false
open Classical in
def aQ {R:Type} (g:Prop) (a:Option R):Option R:=if g then a else none
def aC{α R:Type}(x:α)(k:α->Option R):Option R:=k x
theorem aL{α R:Type}(x:α)(k:α->Option R):aC x k=k x:=rfl
def shS{R:Type}(s:S)(K:S->Option R):Option R:=match s with
 | .sc (.int k n)=>aC n fun n=>K (.sc (.int k n))
 | .sc (.bool b)=>aC b fun b=>K (.sc (.bool b))
 | .sc (.float k b)=>aC b fun b=>K (.sc (.float k b))
 | .ints k ns=>aC ns fun ns=>K (.ints k ns)
 |s=>K s
def shCs{R:Type}:List S->(List S->Option R)->Option R
 | [],K=>K []
 |s :: r,K=>shS s fun s=>shCs r fun r=>K (s :: r)
def shD{R:Type}(d:D)(K:D->Option R):Option R:=match d with
 | .s x=>shS x fun x=>K (.s x)
 | .agg cs=>shCs cs fun cs=>K (.agg cs)
 | .own e k ns=>aC ns fun ns=>K (.own e k ns)
 | .io e k ns off n=>aC ns fun ns=>K (.io e k ns off n)
 |d=>K d
def shDs{R:Type}:List D->(List D->Option R)->Option R
 | [],K=>K []
 |d :: r,K=>shD d fun d=>shDs r fun r=>K (d :: r)
theorem aCY{R:Type}(s:S)(K:S->Option R):shS s K=K s:=by
 unfold shS;split <;> rfl
theorem Wo{R:Type}:∀(cs:List S) (K:List S->Option R),shCs cs K=K cs
 | [],_=>rfl
 |s :: r,K=>by unfold shCs;rw[aCY,Wo r]
theorem aNW{R:Type}(d:D)(K:D->Option R):shD d K=K d:=by
 unfold shD;split
 ·exact aCY _ _
 ·exact Wo _ _
 ·rfl
 ·rfl
 ·rfl
theorem Ac{R:Type}:∀(ds:List D) (K:List D->Option R),shDs ds K=K ds
 | [],_=>rfl
 |d :: r,K=>by unfold shDs;rw[aNW,Ac r]
def Jx(xs ys:List Nat):Bool:=xs.all fun x=>!(ys.elem x)
def nodup:List Nat->Bool
 | []=>true
 |x :: r=>!(r.elem x)&&nodup r
def toIO(hp:Nat->Option iM):A->Option (Nat×D)
 | .v (.one (.buf id n))=>match hp id with
  |some ⟨e,.ints k ns⟩=>some (id,.io e k ns 0 n)
  |_=>none
 | .v (.one (.view id off n))=>match hp id with
  |some ⟨e,.ints k ns⟩=>some (id,.io e k ns off n)
  |_=>none
 |_=>none
def argsIO(ps:List Nat)(hp:Nat->Option iM):Nat->List A->Option (List (Nat×Nat)×List D)
 |_,[]=>some ([],[])
 |i,a :: r=>bif ps.elem i then(match toIO hp a with
   |some (id,d)=>match argsIO ps hp (i+1) r with
    |some (us,ds)=>some ((i,id) :: us,d :: ds)
    |none=>none
   |none=>none)
  else(match toD hp a with
   |some d=>match argsIO ps hp (i+1) r with
    |some (us,ds)=>some (us,d :: ds)
    |none=>none
   |none=>none)
def nG(ps:List Nat):Nat->List A->List Nat
 |_,[]=>[]
 |i,a :: r=>(bif ps.elem i then []else refs a) ++ nG ps (i+1) r
def leqN:List Nat->List Nat->Bool
 | [],[]=>true
 |a :: r,b :: s=>bNC a b&&leqN r s
 |_,_=>false
def backIO:List (Nat×Nat)->List D->Option oC
 | [],[]=>some []
 | (_,id) :: us,.io e k ns _ _ :: ds=>match backIO us ds with
  |some u=>some ((id,some ⟨e,.ints k ns⟩) :: u)
  |none=>none
 |_,_=>none
def idAt:List (Nat×Nat)->Nat->Nat
 | [],_=>0
 |q :: us,p=>bif bNC q.1 p then q.2 else idAt us p
def reBack(us:List (Nat×Nat)):D->D
 | .back p off n=>.back (idAt us p) off n
 |d=>d
def callIO{R:Type}(E:Env)(ps:List Nat)(id:Nat)(keep:Bool)(f:FuncId)(args:List A)(hp:Nat->Option iM)(K:A->oC->Option R):Option R :=
 match argsIO ps hp 0 args with
 |none=>none
 |some (us,ds)=>bif leqN (us.map (·.1)) ps&&(nodup (us.map (·.2))&&Jx (us.map (·.2)) (nG ps 0 args))then
  match E.C f ds with
  |none=>none
  |some (g,rs) =>
   aQ g (shDs rs fun rs=>bif bNE us.length rs.length&&bNE rs.length 8&&!((rs.take (rs.length-us.length)).any shares)then
   match backIO us (rs.drop (rs.length-us.length))with
   |none=>none
   |some ub =>
    let r:=takeAll keep id ((rs.take (rs.length-us.length)).map (reBack us))
    match r.1 with
    | [x]=>K (.v x) (ub ++ r.2)
    |xs=>K (.Iy xs) (ub ++ r.2)
   else none)
  else none
def callK{R:Type}(E:Env)(id:Nat)(keep:Bool)(f:FuncId)(args:List A)(hp:Nat->Option iM)(K:A->oC->Option R):Option R :=
 match args.mapM (toD hp)with
 |none=>none
 |some ds=>match E.C f ds with
  |none=>none
  |some (g,rs) =>
   aQ g (shDs rs fun rs=>bif bNE rs.length 8 then
   let r:=takeAll keep id rs
   let aIB:=(bif rs.any shares then(args.flatMap refs).map fun i=>(i,none)else []) ++ r.2
   match r.1 with
   | [x]=>K (.v x) aIB
   |xs=>K (.Iy xs) aIB
   else none)
def nO{R:Type}(n0 id:Nat)(e:TypeId)(te:TI)(s x:A)(hp:Nat->Option iM)(K:A->oC->Option R):Option R:=match x with
 | .v (.one (.buf j m))=>match hp j with
  |some ⟨_,.cells new⟩=>if 0<m/\new.length=m*te.size then(match s with
   | .v (.one (.buf i n))=>match hp i with
    |some ⟨e',.cells cs⟩=>if e=e'/\n0<=i/\0<n/\cs.length=n*te.size/\(n+m)*te.bytes<=1073741824/\n+m<=1073741824 then K (.v (.one (.buf id (n+m)))) [(i,none),(id,some ⟨e,.cells (cs ++ new)⟩)]else none
    |_=>none
   | .v (.one (.s (.sc (.slice none 0 0))))=>if m*te.bytes<=1073741824/\m<=1073741824 then K (.v (.one (.buf id m))) [(id,some ⟨e,.cells new⟩)]else none
   |_=>none)else none
  |_=>none
 |_=>none
def builtinK{R:Type}(E:Env)(id:Nat)(b:Builtin)(args:List A)(uL:List TypeId)(hp:Nat->Option iM)(K:A->oC->Option R):Option R :=
 match b,args,uL with
 | .len,[x],[t]=>match E.T t,lenA x with
  |some ⟨_,_,_,.slice _⟩,some n=>K (yN (.int .i64 n)) []
  |some ⟨_,_,_,.arr n _ _⟩,_=>K (yN (.int .i64 n)) []
  |_,_=>none
 | .max,.v (.one (.s (.sc (.int k n)))) :: r,_=>match foldMM .gtr k n r with
  |some m=>K (yN (.int k m)) []
  |none=>none
 | .min,.v (.one (.s (.sc (.int k n)))) :: r,_=>match foldMM .lss k n r with
  |some m=>K (yN (.int k m)) []
  |none=>none
 | .append,[s,x],[t,t']=>if t=t' then
   match E.T t with
   |some ⟨_,_,_,.slice e⟩=>match E.T e with
    |some ⟨1,bytes,_,.int k⟩=>if bytes<=8 then
      match s,intsOf hp k x with
      | .v (.one (.buf i _)),some ms=>match hp i with
       |some ⟨e',.ints k' ns⟩=>bif bNM i E.n0 then none else if e=e'/\k=k' then(if 0<ms.length/\((ns.length+ms.length:Nat):Int)<=room then K (.v (.one (.buf id (ns.length+ms.length)))) [(i,none),(id,some ⟨e,.ints k (ns ++ ms)⟩)]else none)else none
       |_=>none
      | .v (.one (.s (.sc (.slice none 0 0)))),some ms=>if 0<ms.length/\(ms.length:Int)<=room then K (.v (.one (.buf id ms.length))) [(id,some ⟨e,.ints k ms⟩)]else none
      |_,_=>none
     else none
    |some te=>nO E.n0 id e te s x hp K
    |none=>none
   |_=>none
  else none
 | .copy,[d,s],[t,_] =>
   match E.T t with
   |some ⟨_,_,_,.slice e⟩=>match E.T e with
    |some ⟨1,_,_,.int k⟩ =>
      match d,intsOf hp k s with
      | .v (.one (.buf i n)),some ms=>match hp i with
       |some ⟨e',.ints k' ns⟩=>if k=k' then K (yN (.int .i64 (min ms.length n:Nat))) [(i,some ⟨e',.ints k (ms.take n ++ ns.drop (min ms.length n))⟩)]else none
       |_=>none
      | .v (.one (.view i off n)),some ms=>match hp i with
       |some ⟨e',.ints k' ns⟩=>if k=k'/\off+n<=ns.length then K (yN (.int .i64 (min ms.length n:Nat))) [(i,some ⟨e',.ints k (ns.take off ++ (ms.take n ++ ns.drop (off+min ms.length n)))⟩)]else none
       |_=>none
      |_,_=>none
    |_=>none
   |_=>none
 |_,_,_=>none
def Qk:List Value->Option (List IntKind)
 | []=>some []
 | .int k _ :: r=>(Qk r).map (k :: ·)
 |_=>none
def uQ(ti:TI):Option (List IntKind):=match ti.kind with
 | .struct fs=>if(fs.all fun f=>bNC f.2.1 1&&!f.2.2)=true then Qk ti.zero else none
 |_=>none
def eqInts:List IntKind->List S->List S->Option Bool
 | [],[],[]=>some true
 |k :: ks,.sc (.int k1 a) :: r,.sc (.int k2 b) :: r'=>if k1=k/\k2=k then(eqInts ks r r').map fun q=>(a==b)&&q else none
 |_,_,_=>none
def eqAgg(t:Option TI)(cs ds:List S):Option Bool:=match t with
 |some ti=>match uQ ti with
  |some ks=>eqInts ks cs ds
  |none=>none
 |none=>none
def aPR:List S->Option IntKind
 | .sc (.int k _) :: _=>some k
 |_=>none
def pickC(len m:Nat)(cs:List S):Option S:=match aPR cs with
 |some k=>match allInts k cs with
  |some ns=>bif bNC ns.length len then some (.sc (.int k (ns.getD m 0)))else cs[m]?
  |none=>cs[m]?
 |none=>cs[m]?
def aOK(len nV n:Nat)(cs:List S):Option S:=bif bNC nV 1 then pickC len n cs else cs[n*nV]?
theorem Sa{k:IntKind}{cs:List S}:∀{ns:List Int},allInts k cs=some ns->∀m,m<ns.length->cs[m]?=some (.sc (.int k (ns.getD m 0))):=by
 induction cs with
 |nil=>intro ns h m hm;cases h;simp at hm
 |cons c r ih =>
  intro ns h m hm;unfold allInts at h;split at h
  ·rename_i heq;cases heq
  ·rename_i k' n r' heq;cases heq;split at h
   ·rename_i hk;subst hk;obtain⟨rs,hr,rfl⟩:=Option.map_eq_some_iff.1 h;cases m with
    |zero=>rfl
    |succ m=>simpa using ih hr m (by simpa using hm)
   ·cases h
  ·cases h
theorem aJU{len nV:Nat}{n:Int}(cs:List S)(h:0<=n/\n<(len:Int)):aOK len nV n.toNat cs=cs[n.toNat*nV]?:=by
 unfold aOK;cases he:bNC nV 1 with
 |false=>rfl
 |true =>
  have:=bNP he;subst this;rw[cond_true,bNL];unfold pickC;split
  ·rename_i k _;split
   ·rename_i ns aRF;cases hl:bNC ns.length len with
    |false=>rfl
    |true =>
     have:=bNP hl;rw[cond_true,Sa aRF n.toNat (by omega)]
   ·rfl
  ·rfl
def effK{R:Type}(E:Env)(id:Nat)(o:Oper)(ev:Operand->A)(hp:Nat->Option iM)(K:A->oC->Option R):Option R :=
 match o.op with
 | .move x=>K (ev x) []
 | .assign x=>K (ev x) []
 | .pick c a b=>match ev c with
  | .v (.one (.s (.sc (.bool t))))=>match ev a,ev b with
   | .v (.one (.s (.sc (.bool p)))),.v (.one (.s (.sc (.bool q))))=>K (yN (.bool (bif t then p else q))) []
   |x,y=>bif t then K x []else K y []
  |_=>none
 | .alloc e=>match E.T e with
  |some ti=>K (.v (.one (.ptr id 0))) [(id,some ⟨e,.cells (ti.zero.map (wideS E.wide))⟩)]
  |none=>none
 | .box e x=>match E.T e,cellsOf hp (ev x)with
  |some ti,some (cs,u)=>if cs.length=ti.size then K (.v (.one (.ptr id 0))) (u ++ [(id,some ⟨e,.cells cs⟩)])else none
  |_,_=>none
 | .build t parts=>match E.T t with
  |some ⟨_,_,zero,.struct fs⟩=>fillK hp (fun i=>(fs[i]?).map fun f=>(f.1,f.2.1)) ev parts.toList (zero.map .sc) [] fun cs u=>K (.v (.agg cs)) u
  |some ⟨_,_,zero,.arr _ nV _⟩=>fillK hp (fun i=>some (i*nV,nV)) ev parts.toList (zero.map .sc) [] fun cs u=>K (.v (.agg cs)) u
  |_=>none
 | .buildSlice t len parts=>match E.T t with
  |some ⟨_,_,_,.slice e⟩=>match E.T e with
   |some ⟨size,_,zero,kind⟩ =>
    if len*size<=16777216/\0<size then
    fillK hp (fun i=>some (i*size,size)) ev parts.toList ((bOL (len*size)).map fun i=>S.sc (zero.getD (i%size) undef)) [] fun cs u =>
     match kind,size with
     | .int k,1=>match allInts k cs with
      |some ns=>K (.v (.one (.buf id len))) (u ++ [(id,some ⟨e,.ints k ns⟩)])
      |none=>none
     |_,_=>K (.v (.one (.buf id len))) (u ++ [(id,some ⟨e,.cells cs⟩)])
    else none
   |none=>none
  |_=>none
 | .load t x=>match E.T t with
  |some ti=>match ev x with
   | .v (.one (.ptr i off))=>match hp i with
    |some ⟨_,.cells cs⟩=>match partOf ti cs off with
     |some v=>K (.v v) []
     |none=>none
    |_=>none
   | .v (.one (.Mu i j))=>match hp i,ti.kind.isAgg with
    |some ⟨_,.ints k ns⟩,false=>K (yN (.int k (ns.getD j 0))) []
    |_,_=>none
   | .v (.one (.Jw cs))=>match partOf ti cs 0 with
    |some v=>K (.v v) []
    |none=>none
   |_=>none
  |none=>none
 | .store t x y=>match E.T t with
  |some ti=>match ev x with
   | .v (.one (.ptr i off))=>match hp i,cellsOf hp (ev y)with
    |some ⟨e,.cells cs⟩,some (new,u)=>if new.length=ti.size/\off+new.length<=cs.length/\(u.all fun p=>p.1 !=i)=true then K .any (u ++ [(i,some ⟨e,.cells (setAt cs off new)⟩)])else none
    |_,_=>none
   | .v (.one (.Mu i j))=>match hp i,ev y with
    |some ⟨e,.ints k ns⟩,.v (.one (.s (.sc (.int k' n))))=>if k=k'/\ti.size=1 then K .any [(i,some ⟨e,.ints k (ns.set j n)⟩)]else none
    |_,_=>none
   |_=>none
  |none=>none
 | .binOp op t x y _=>match ev x,ev y with
  | .v (.one (.s (.sc a))),.v (.one (.s (.sc b)))=>bif boolT (E.T t) a then binK op a b fun r=>K (yN r) []else none
  | .v (.agg cs),.v (.agg ds)=>match eqAgg (E.T t) cs ds with
   |some b=>match op with
    | .eql=>K (yN (.bool b)) []
    | .neq=>K (yN (.bool (!b))) []
    |_=>none
   |none=>none
  |_,_=>none
 | .unOp op _ x=>match ev x with
  | .v (.one (.s (.sc a)))=>unK op a fun r=>K (yN r) []
  |_=>none
 | .convert s d x=>match E.T s,E.T d,ev x with
  |some _,some ti,.v (.one (.s (.sc a)))=>convK ti.kind a fun r=>K (yN r) []
  |_,_,_=>none
 | .makeSlice t l c=>match E.T t,intArg (ev l),intArg (ev c)with
  |some ⟨_,_,_,.slice e⟩,some (_,a),some (_,b)=>match E.T e with
   |some ⟨1,bytes,[.int k0 z0],.int k⟩=>if bytes<=8/\0<bytes/\k0=k/\z0=0 then
     (if 0<=a/\a<=b/\b<=room then K (.v (.one (.buf id a.toNat))) [(id,some ⟨e,.ints k (bPE a.toNat 0)⟩)]else none)else none
   |_=>none
  |_,_,_=>none
 | .slice t x lo hi mx=>match E.T t with
  |some ⟨_,_,_,.slice e⟩=>match E.T e with
   |some ⟨1,_,_,.int k⟩=>match ev x with
    | .v (.one (.s (.ints k' ns)))=>if k=k' then sliceK ns.length (lo.map ev) (hi.map ev) (mx.map ev) fun l h=>K (.v (.one (.s (.ints k ((ns.take h).drop l))))) []else none
    | .v (.one (.s (.sc (.slice none 0 0))))=>sliceK 0 (lo.map ev) (hi.map ev) (mx.map ev) fun _ _=>K (.v (.one (.s (.ints k [])))) []
    | .v (.one (.buf i n))=>sliceK n (lo.map ev) (hi.map ev) (mx.map ev) fun l h=>K (.v (.one (.view i l (h-l)))) []
    | .v (.one (.view i off n))=>sliceK n (lo.map ev) (hi.map ev) (mx.map ev) fun l h=>K (.v (.one (.view i (off+l) (h-l)))) []
    |_=>none
   |some te=>match ev x with
    | .v (.one (.rows sz n f))=>if sz=te.size then sliceK n (lo.map ev) (hi.map ev) (mx.map ev) fun l h=>K (.v (.one (.rows sz (h-l) fun i=>f (l+i)))) []else none
    |_=>none
   |none=>none
  |_=>none
 | .fieldAddr t x f=>match E.T t with
  |some ⟨_,_,_,.struct fs⟩=>match fs[f]?,ev x with
   |some (off,size,_),.v (.one (.ptr i o))=>if 0<size then K (.v (.one (.ptr i (o+off)))) []else none
   |some (off,size,_),.v (.one (.Jw cs))=>if 0<size then K (.v (.one (.Jw (cs.drop off)))) []else none
   |_,_=>none
  |_=>none
 | .field t x f=>match E.T t with
  |some ⟨_,_,_,.struct fs⟩=>match fs[f]?,ev x with
   |some (off,size,g),.v (.agg cs)=>match (bif g then(if _h:off+size<=cs.length then some (V.agg ((cs.drop off).take size))else none)else(cs[off]?).map fun c=>V.one (.s c))with
    |some v=>K (.v v) []
    |none=>none
   |_,_=>none
  |_=>none
 | .indexAddr t x i=>match E.T t,intArg (ev i)with
  |some ti,some (_,n)=>match ti.kind with
   | .slice e=>match E.T e with
    |some te=>match ev x with
     | .v (.one (.ptr _ _))=>none
     | .v (.one (.Of _ _))=>none
     |xa=>Mv E.short hp ti te.size xa n fun a=>K a []
    |none=>none
   | .arr _ nV _=>match ev x with
    | .v (.one (.ptr i off))=>idxK hp ti nV (.v (.one (.ptr i off))) n fun a=>K a []
    | .v (.one (.Of k ns))=>idxK hp ti nV (.v (.one (.Of k ns))) n fun a=>K a []
    |_=>none
   |_=>none
  |_,_=>none
 | .index t x i=>match E.T t,ev x,intArg (ev i)with
  |some ⟨_,_,_,.arr len nV g⟩,.v (.agg cs),some (_,n)=>if 0<=n/\n<len then
    match (bif g then(if _h:n.toNat*nV+nV<=cs.length then some (V.agg ((cs.drop (n.toNat*nV)).take nV))else none)else(aOK len nV n.toNat cs).map fun c=>V.one (.s c))with
    |some v=>K (.v v) []
    |none=>none
   else none
  |some ⟨_,_,_,.str⟩,.v (.one (.s (.sc (.string s)))),some (_,n)=>if 0<=n/\n<(s.size:Int)then K (yN (.int .u8 (Du s n))) []else none
  |_,_,_=>none
 | .extract x i=>match ev x with
  | .Iy xs=>match xs[i]? with
   |some v=>K (.v v) []
   |none=>none
  |_=>none
 | .call ⟨.value fo,args,_⟩=>match funOf (ev fo)with
  |some f=>match (argVals (args.toList.map ev)).bind (E.ext f)with
   |some (g,vs)=>aQ g (K (aSM vs) [])
   |none=>match E.ioF f with
    | []=>callK E id (keepOf E o) f (args.toList.map ev) hp K
    |p :: ps=>callIO E (p :: ps) id (keepOf E o) f (args.toList.map ev) hp K
  |none=>none
 | .call ⟨.builtin b,args,uL⟩=>builtinK E id b (args.toList.map ev) uL.toList hp K
 |_=>none
def applyUps:oC->(Nat->Option iM)->Nat->Option iM
 | [],hp=>hp
 | (i,b) :: r,hp=>applyUps r (xU hp i b)
def zE(o:Oper)(a:A)(fr:Nat->A):Nat->A :=
 match o.dst with
 |some d=>xU fr d a
 |none=>fr
def after(o:Oper)(st:St)(a:A)(u:oC):St:=⟨zE o a st.fr,applyUps u st.hp,st.n⟩
def oZ(E:Env)(id:Nat)(o:Oper)(ev:Operand->A)(hp:Nat->Option iM):Option (A×oC):=effK E id o ev hp fun a u=>some (a,u)
structure Rec where
 i:Nat
 o:Oper
 aBV:List Nat
 aIB:List Nat
def qP(o:Oper)(ev:Operand->A)(u:oC):List Nat:=(o.op.operands.toList.flatMap fun x=>refs (ev x)) ++ u.map (·.1)
def befB(ops:Array Oper)(j:Nat):Nat->Oper->Bool
 |0,_=>false
 |n+1,o=>o.after.any fun e=>Region.binds .any e&&(e.on==j||(match ops[e.on]? with |some o'=>befB ops j n o' |none=>false))
def indep(ops:Array Oper)(r:Rec)(_i:Nat)(o:Oper)(aBV aIB:List Nat):Bool :=
 (o.after.any fun e=>Region.binds .any e&&e.on==r.i)||(r.o.apart ops o&&Jx r.aIB aBV&&Jx aIB r.aBV)||befB ops r.i 3 o
def hI(nt:Nat)(o:Oper):Bool:=match o.dst with
 |some d=>bNM d nt
 |none=>true
def vC(i:Nat)(o:Oper):Bool:=o.after.all fun e=>!Region.binds .any e||bNM e.on i
def opsK{R:Type}(E:Env)(draw:Bool)(ops:Array Oper)(base:Nat):List Oper->Nat->List Rec->St->(St->Option R)->Option R
 | [],_,_,st,K=>K st
 |o :: rest,i,mL,st,K =>
  bif hI E.nt o&&(!draw||vC i o)then
  match o.guard with
  |none=>effK E (base+8*i) o (evA E st.fr) st.hp fun a u =>
    let t:=qP o (evA E st.fr) u
    bif !draw||mL.all fun r=>indep ops r i o t (u.map (·.1))then opsK E draw ops base rest (i+1) (⟨i,o,t,u.map (·.1)⟩ :: mL) (after o st a u) K else none
  |some (j,want)=>match (ops[j]?).bind (·.dst)with
   |some d=>match st.fr d with
    | .v (.one (.s (.sc (.bool b)))) =>
     let go (lit:Bool):Option R :=
      let eN:St:=⟨xU st.fr d (yN (.bool lit)),st.hp,st.n⟩
      bif lit==want then
       effK E (base+8*i) o (evA E eN.fr) eN.hp fun a u =>
        let t:=qP o (evA E eN.fr) u
        bif !draw||mL.all fun r=>indep ops r i o t (u.map (·.1))then opsK E draw ops base rest (i+1) (⟨i,o,t,u.map (·.1)⟩ :: mL) (after o eN a u) K else none
      else bif !draw||mL.all fun r=>indep ops r i o [] []then opsK E draw ops base rest (i+1) (⟨i,o,[],[]⟩ :: mL) (after o eN (.Iy []) []) K else none
     aB b (go true) (go false)
    | .Iy []=>bif !draw||mL.all fun r=>indep ops r i o [] []then opsK E draw ops base rest (i+1) (⟨i,o,[],[]⟩ :: mL) (after o st (.Iy []) []) K else none
    |_=>none
   |none=>none
  else none
inductive Ex where
 |normal
 |exit (id:Nat)
 |ret
abbrev KV:=A×Option iM
def aFE(st:St)(s:Nat):Option (Nat×A):=match st.fr s with
 | .v (.one (.buf i n))=>match st.hp i with
  |some ⟨_,.cells cs⟩=>if n*(cs.length/n)=cs.length/\0<n then some (i,.v (.one (.rows (cs.length/n) n fun j=>(cs.drop (j*(cs.length/n))).take (cs.length/n))))else none
  |_=>none
 |_=>none
def canonGo(n0:Nat)(st:St):List Nat->Nat->List Nat->List KV
 | [],_,_=>[]
 |s :: r,p,seen=>bif bNE 1000000 s then(match aFE st (s%1000000)with
   |some (i,a)=>bif seen.elem i then(.any,none) :: canonGo n0 st r (p+1) seen else(a,none) :: canonGo n0 st r (p+1) (i :: seen)
   |none=>(.any,none) :: canonGo n0 st r (p+1) seen)else
  match st.fr (s%1000000)with
  | .v (.one (.buf i n))=>bif seen.elem i then(.any,none) :: canonGo n0 st r (p+1) seen else(.v (.one (.buf p n)),st.hp i) :: canonGo n0 st r (p+1) (i :: seen)
  | .v (.one (.ptr i 0))=>bif seen.elem i then(.any,none) :: canonGo n0 st r (p+1) seen else(.v (.one (.ptr p 0)),st.hp i) :: canonGo n0 st r (p+1) (i :: seen)
  | .v (.one (.ptr _ _))=>(.any,none) :: canonGo n0 st r (p+1) seen
  | .v (.one (.Mu _ _))=>(.any,none) :: canonGo n0 st r (p+1) seen
  | .v (.one (.view i off n))=>bif bNM i n0 then(.v (.one (.view i off n)),none) :: canonGo n0 st r (p+1) seen else(.any,none) :: canonGo n0 st r (p+1) seen
  | .Iy _=>(.any,none) :: canonGo n0 st r (p+1) seen
  |a=>(a,none) :: canonGo n0 st r (p+1) seen
def canonIO(st:St):Nat->Nat->List KV
 |0,_=>[]
 |n+1,i=>(.any,st.hp i) :: canonIO st n (i+1)
def below:Nat->List Nat
 |0=>[]
 |n+1=>n :: below n
def canon(n0:Nat)(keep:List Nat)(st:St):List KV:=canonIO st n0 0 ++ canonGo n0 st keep n0 (below n0)
def slotGo(t:Nat):List Nat->List KV->A
 |s :: r,kv :: l=>bif bNC t (s%1000000)then kv.1 else slotGo t r l
 |_,_=>.any
def blkGo:Nat->List KV->Option iM
 |_,[]=>none
 |0,kv :: _=>kv.2
 |n+1,_ :: l=>blkGo n l
def mk(n0:Nat)(keep:List Nat)(l:List KV):St:=⟨fun t=>slotGo t keep (l.drop n0),fun i=>blkGo i l,n0+keep.length⟩
def keyOf:Code->Nat
 | .region id _ _=>id
 | .seq a _=>keyOf a
 | .block _ c=>keyOf c
 | .loop c=>keyOf c
 | .scope c=>keyOf c
 |_=>0
section
variable {α R:Type}
def iter(G:(α->Option R)->α->Option R):Nat->α->Option R
 |0=>fun _=>none
 |n+1=>G (iter G n)
open Classical in
def fix (G:(α->Option R)->α->Option R) (a:α):Option R :=
 if h:∃r,∃n,iter G n a=some r then some (Classical.choose h)else none
end
abbrev roundOf{R:Type}(ec:Code->St->(Ex->St->Option R)->Option R)(n0:Nat)(keep:List Nat)(c:Code)(K:Ex->St->Option R)(rec:List KV->Option R)(l:List KV):Option R :=
 ec c (mk n0 keep l) fun ex eN=>match ex with
  | .normal=>rec (canon n0 keep eN)
  | .exit i=>K (.exit i) eN
  | .ret=>K .ret eN
def yF{R:Type}(_key:Nat)(l:List KV)(k:List KV->Option R):Option R:=k l
def evalCode{R:Type}(E:Env):Code->St->(Ex->St->Option R)->Option R
 | .skip,st,K=>K .normal st
 | .label _,st,K=>K .normal st
 | .region _ ops draw,st,K=>opsK E draw ops st.n ops.toList 0 [] st fun eN=>K .normal ⟨eN.fr,eN.hp,st.n+8*ops.size⟩
 | .seq a b,st,K=>evalCode E a st fun ex eN=>match ex with
  | .normal=>match E.cut (keyOf b)with
   |some keep=>yF (keyOf b) (canon E.n0 keep eN) fun l=>evalCode E b (mk E.n0 keep l) K
   |none=>evalCode E b eN K
  | .exit i=>K (.exit i) eN
  | .ret=>K .ret eN
 | .cond c a b,st,K=>match c with
  | .tmp s=>match st.fr s with
   | .v (.one (.s (.sc (.bool t))))=>aB t (evalCode E a ⟨xU st.fr s (yN (.bool true)),st.hp,st.n⟩ K) (evalCode E b ⟨xU st.fr s (yN (.bool false)),st.hp,st.n⟩ K)
   |_=>none
  | .const (.bool t)=>aB t (evalCode E a st K) (evalCode E b st K)
  |_=>none
 | .block id c,st,K=>evalCode E c st fun ex eN=>match ex with
  | .normal=>K .normal eN
  | .exit i=>bif bNC i id then K .normal eN else K (.exit i) eN
  | .ret=>K .ret eN
 | .exit id,st,K=>K (.exit id) st
 | .ret,st,K=>K .ret st
 | .loop c,st,K=>match E.roll (keyOf c)with
  |some n=>iter (fun rec l=>evalCode E c (mk E.n0 (E.keep (keyOf c)) l) fun ex eN=>match ex with
    | .normal=>rec (canon E.n0 (E.keep (keyOf c)) eN)
    | .exit i=>K (.exit i) eN
    | .ret=>K .ret eN) n (canon E.n0 (E.keep (keyOf c)) st)
  |none=>fix (fun rec l=>evalCode E c (mk E.n0 (E.keep (keyOf c)) l) fun ex eN=>match ex with
    | .normal=>rec (canon E.n0 (E.keep (keyOf c)) eN)
    | .exit i=>K (.exit i) eN
    | .ret=>K .ret eN) (canon E.n0 (E.keep (keyOf c)) st)
 | .scope c,st,K=>evalCode E c st K
 |_,_,_=>none
def resD(E:Env)(st:St):ResultVar->Option D
 | .tmp t=>match st.fr t with
  | .v (.agg cs)=>some (.agg cs)
  | .v (.one (.s x))=>some (.s x)
  | .v (.one (.buf i _))=>bif bNM i E.n0 then none else match st.hp i with
   |some ⟨e,.ints k ns⟩=>some (.own e k ns)
   |_=>none
  | .v (.one (.view i off n))=>bif E.io.elem i then some (.back i off n)else bif bNM i E.n0 then none else match st.hp i,off with
   |some ⟨e,.ints k ns⟩,0=>some (.own e k (ns.take n))
   |_,_=>none
  |_=>none
 | .cell t ty=>match st.fr t,E.T ty with
  | .v (.one (.ptr i off)),some ti=>match st.hp i with
   |some ⟨_,.cells cs⟩=>match partOf ti cs off with
    |some (.agg Hu)=>some (.agg Hu)
    |some (.one (.s x))=>some (.s x)
    |_=>none
   |_=>none
  |_,_=>none
def ownIds(st:St):List ResultVar->List Nat
 | []=>[]
 | .tmp t :: r=>(match st.fr t with | .v (.one (.buf i _))=>[i] | .v (.one (.view i _ _))=>[i] |_=>[]) ++ ownIds st r
 | .cell _ _ :: r=>ownIds st r
def aTF(st:St)(i:Nat):Option D:=match st.hp i with
 |some ⟨e,.ints k ns⟩=>some (.io e k ns 0 0)
 |_=>none
def oP(E:Env)(fn:Func)(ex:Ex)(st:St):Option (List D) :=
 match ex with
 | .exit _=>none
 |_=>bif nodup (ownIds st fn.results.toList)then(match E.io with
  | []=>fn.results.toList.mapM (resD E st)
  |p :: ps=>match fn.results.toList.mapM (resD E st),(p :: ps).mapM (aTF st)with
   |some rs,some is=>some (rs ++ is)
   |_,_=>none)else none
def bCZ:D->A
 | .s x=>.v (.one (.s x))
 | .rows sz n f=>.v (.one (.rows sz n f))
 | .agg cs=>.v (.agg cs)
 | .own _ k ns=>.v (.one (.s (.ints k ns)))
 | .io _ _ _ _ _=>.any
 | .back _ _ _=>.any
def argAt(i:Nat):D->A
 | .io _ _ _ off n=>.v (.one (.view i off n))
 |d=>bCZ d
def argFrI:Nat->List D->Nat->A
 |_,[],_=>.any
 |i,d :: _,0=>argAt i d
 |i,_ :: r,n+1=>argFrI (i+1) r n
abbrev Rw:List D->Nat->A:=argFrI 0
def argHp:Nat->List D->Nat->Option iM
 |_,[],_=>none
 |i,.io e k ns _ _ :: r,j=>bif bNC j i then some ⟨e,.ints k ns⟩else argHp (i+1) r j
 |i,_ :: r,j=>argHp (i+1) r j
def aF(E:Env)(fn:Func)(c:Code)(ds:List D):Option (List D) :=
 evalCode E c ⟨Rw ds,argHp 0 ds,E.n0⟩ (oP E fn)
def Tj{R:Type}(E:Env)(b:Code)(K:Ex->St->Option R)(ex:Ex)(eN:St):Option R:=match ex with
 | .normal=>match E.cut (keyOf b)with
  |some keep=>yF (keyOf b) (canon E.n0 keep eN) fun l=>evalCode E b (mk E.n0 keep l) K
  |none=>evalCode E b eN K
 | .exit i=>K (.exit i) eN
 | .ret=>K .ret eN
def Hx{R:Type}(id:Nat)(K:Ex->St->Option R)(ex:Ex)(eN:St):Option R:=match ex with
 | .normal=>K .normal eN
 | .exit i=>bif bNC i id then K .normal eN else K (.exit i) eN
 | .ret=>K .ret eN
def Ku{R:Type}(E:Env)(c:Code)(K:Ex->St->Option R)(ex:Ex)(eN:St):Option R:=match ex with
 | .normal=>fix (fun rec l=>evalCode E c (mk E.n0 (E.keep (keyOf c)) l) fun ex eN=>match ex with
  | .normal=>rec (canon E.n0 (E.keep (keyOf c)) eN)
  | .exit i=>K (.exit i) eN
  | .ret=>K .ret eN) (canon E.n0 (E.keep (keyOf c)) eN)
 | .exit i=>K (.exit i) eN
 | .ret=>K .ret eN
def findLoop{R:Type}(E:Env)(key:Nat):Code->(Ex->St->Option R)->Option (Code×(Ex->St->Option R))
 | .seq a b,K=>(findLoop E key a (Tj E b K)).or (findLoop E key b K)
 | .cond _ a b,K=>(findLoop E key a K).or (findLoop E key b K)
 | .block id c,K=>findLoop E key c (Hx id K)
 | .loop c,K=>bif bNC (keyOf c) key then some (c,K)else findLoop E key c (Ku E c K)
 | .scope c,K=>findLoop E key c K
 |_,_=>none
def dZ{R:Type}(E:Env)(key:Nat):Code->(Ex->St->Option R)->Option (Code×(Ex->St->Option R))
 | .seq a b,K=>bif bNC (keyOf b) key then some (b,K)else(dZ E key a (Tj E b K)).or (dZ E key b K)
 | .cond _ a b,K=>(dZ E key a K).or (dZ E key b K)
 | .block id c,K=>dZ E key c (Hx id K)
 | .loop c,K=>dZ E key c (Ku E c K)
 | .scope c,K=>dZ E key c K
 |_,_=>none
end AI
namespace AI
open Go Go.RowKit
def nC(X:Nat->Prop)(w:World):S->Value->Prop
 | .sc u,v=>v=u/\u.oneCell'=true
 | .ints k ns,v=>∃A c,v=.slice A ns.length c/\ns.length<=c/\∀(i:Nat) (n:Int),ns[i]?=some n->∃b off,A=some ⟨b,off,none⟩/\b<w.heap.size/\¬X b/\w.cell? ⟨b,off+i,none⟩=some (.int k n)
 | .bot,v=>v.oneCell'=true
def gI(X:Nat->Prop)(w:World)(cs:List S)(vs:List Value):Prop :=
 cs.length=vs.length/\∀(i:Nat) (s:S) (u:Value),cs[i]?=some s->vs[i]?=some u->nC X w s u
def rI(X:Nat->Prop)(w:World)(b off:Nat)(cs:List S):Prop :=
 ∀(i:Nat) (s:S),cs[i]?=some s->b<w.heap.size/\¬X b/\∃u,w.cell? ⟨b,off+i,none⟩=some u/\nC X w s u
def jR(w:World)(g:Nat):Nat:=match w.heap[g]? with
 |some (.cells arr _ _)=>arr.size
 |_=>0
def tW(k:IntKind)(ns:List Int):List S:=ns.map fun n=>.sc (.int k n)
def aAW(ρ:Nat->Nat)(hp:Nat->Option iM)(X:Nat->Prop)(w:World):L->Value->Prop
 | .s x,v=>nC X w x v
 | .rows sz n f,v=>∃A c,v=.slice A n c/\n<=c/\∀i,i<n->(f i).length=sz/\∃b off,A=some ⟨b,off,none⟩/\rI X w b (off+i*sz) (f i)
 | .Jw cs,v=>∃b off,v=.pointer (some ⟨b,off,none⟩)/\rI X w b off cs
 | .Of k ns,v=>∃b off,v=.pointer (some ⟨b,off,none⟩)/\rI X w b off (tW k ns)
 | .ptr id off,v=>v=.pointer (some ⟨ρ id,off,none⟩)
 | .Mu id i,v=>v=.pointer (some ⟨ρ id,i,none⟩)/\∀blk k ns,hp id=some blk->blk.cont=.ints k ns->i<ns.length
 | .buf id n,v=>∃cap,v=.slice (some ⟨ρ id,0,none⟩) n cap/\n<=cap/\(∀blk k ns,hp id=some blk->blk.cont=.ints k ns->n=ns.length/\cap<=maxLen/\cap<=jR w (ρ id))/\∀blk cs,hp id=some blk->blk.cont=.cells cs->∃sz,cs.length=n*sz/\cap*sz<=jR w (ρ id)/\cap<=maxLen
 | .view id off n,v=>∃o' cap,v=.slice (some ⟨ρ id,o',none⟩) n cap/\n<=cap/\(0<n->o'=off)/\(off=0->o'=0)/\∀blk k ns,hp id=some blk->blk.cont=.ints k ns->off+n<=ns.length/\cap<=maxLen/\cap<=jR w (ρ id)
theorem tN{ρ:Nat->Nat}{hp:Nat->Option iM}{w:World}{id off n:Nat}{v:Value}(h:aAW ρ hp (fun _=>False) w (.view id off n) v) :
  ∃A cap,v=.slice A n cap/\n<=cap/\(0<n->A=some ⟨ρ id,off,none⟩)/\∀blk k ns,hp id=some blk->blk.cont=.ints k ns->off+n<=ns.length:=by
 obtain⟨o',cap,hv,hle,h1,_,h2⟩:=h;exact⟨_,cap,hv,hle,fun hn=>by rw[h1 hn],fun blk k ns h3 h4=>(h2 blk k ns h3 h4).1⟩
def Bk(ρ:Nat->Nat)(hp:Nat->Option iM)(X:Nat->Prop)(w:World):V->Value->Prop
 | .one l,v=>aAW ρ hp X w l v
 | .agg cs,v=>∃arr,v=.agg arr/\gI X w cs arr.toList
def vK(ρ:Nat->Nat)(hp:Nat->Option iM)(X:Nat->Prop)(w:World):A->Value->Prop
 | .v x,v=>Bk ρ hp X w x v
 | .Iy xs,v=>∃arr,v=.tuple arr/\xs.length=arr.size/\∀(i:Nat) (x:V) (u:Value),xs[i]?=some x->arr[i]?=some u->Bk ρ hp X w x u
 | .any,_=>True
def vJ(X:Nat->Prop)(w:World):rH->Array Value->Prop
 | .ints k ns,arr=>ns.length<=arr.size/\∀(i:Nat) (n:Int),ns[i]?=some n->arr[i]?=some (Value.int k n)
 | .cells cs,arr=>cs.length<=arr.size/\∀(i:Nat) (s:S),cs[i]?=some s->∃u,arr[i]?=some u/\nC X w s u
def Bl(X:Nat->Prop)(w:World)(g:Nat)(b:iM):Prop:=∃arr,w.heap[g]?=some (.cells arr b.e (0,0))/\vJ X w b.cont arr
def aIM(ρ:Nat->Nat)(hp:Nat->Option iM)(b:Nat):Prop:=∃id blk,hp id=some blk/\ρ id=b
def XO(X:Nat->Prop)(ρ:Nat->Nat)(hp:Nat->Option iM)(b:Nat):Prop:=X b\/aIM ρ hp b
def GlobOk(glob:Nat->Option (IntKind×List Int))(X:Nat->Prop)(w:World):Prop :=
 ∀g k ns,glob g=some (k,ns)->g<w.heap.size/\¬X g/\rI X w g 0 (tW k ns)
structure Old where
 w:World
 M:Nat->Prop
 g:Nat->Nat
 aST:∀b,M b->b<w.heap.size
def Old.Em(o:Old)(b:Nat):Prop:=o.w.heap.size<=b\/o.M b
def Old.zF(o:Old)(n0 id b:Nat):Prop:=o.w.heap.size<=b\/(id<n0/\o.M b)
theorem Old.zF.Em{o:Old}{n0 id b:Nat}(h:o.zF n0 id b):o.Em b:=h.imp (fun h=>h) And.right
theorem Old.zF.new{o:Old}{n0 id b:Nat}(h:o.zF n0 id b)(hn:n0<=id):o.w.heap.size<=b:=h.elim (fun h=>h) fun h=>absurd h.1 (by omega)
def Old.bare(w:World):Old:=⟨w,fun _=>False,id,fun _ h=>h.elim⟩
structure Kept(o:Old)(w w':World):Prop where
 os:w'.os=w.os
 tape:w'.tape=w.tape
 output:w'.output=w.output
 size:w.heap.size<=w'.heap.size
 block:∀b,¬o.Em b->w'.heap[b]?=w.heap[b]?
 room:∀b,o.M b->jR w' b=jR w b
theorem uE{w w':World}{b:Nat}(h:w'.heap[b]?=w.heap[b]?):jR w' b=jR w b:=by unfold jR;rw[h]
theorem Kept.refl(o:Old)(w:World):Kept o w w:=⟨rfl,rfl,rfl,bNB _,fun _ _=>rfl,fun _ _=>rfl⟩
theorem Kept.trans{o:Old}{a b c:World}(h:Kept o a b)(k:Kept o b c):Kept o a c :=
 ⟨k.os.trans h.os,k.tape.trans h.tape,k.output.trans h.output,bNX h.size k.size,fun i hi=>(k.block i hi).trans (h.block i hi),fun i hi=>(k.room i hi).trans (h.room i hi)⟩
theorem Old.Qb{o:Old}{b:Nat}(h:¬o.Em b):b<o.w.heap.size:=by
 rcases bNQ b o.w.heap.size with h1 |h1
 ·exact h1
 ·exact(h (.inl h1)).elim
theorem Kept.below{w w' aSF:World}(h:Kept (Old.bare w) w' aSF):Below w.heap.size w' aSF :=
 ⟨h.os,h.tape,h.output,h.size,fun k hk=>h.block k (fun hm=>by
  rcases hm with hm |hm
  ·exact absurd (show w.heap.size<=k from hm) (by omega)
  ·exact hm)⟩
structure gX(E:Env)(X:Nat->Prop)(w0:Old)(ρ:Nat->Nat)(al:Nat->Prop)(f:Nat->A)(hp:Nat->Option iM)(a:Act)(w:World):Prop where
 fr:∀t,vK ρ hp (XO X ρ hp) w (f t) (a.tmps.getD t undef)
 sz:a.tmps.size=E.nt
 nod:a.defers=[]
 blk:∀id b,hp id=some b->w0.zF E.n0 id (ρ id)/\Bl (XO X ρ hp) w (ρ id) b
 inj:∀id So b b',hp id=some b->hp So=some b'->ρ id=ρ So->id=So
 alh:∀id b,hp id=some b->al id
 alr:∀t id,id∈refs (f t)->al id
 below:Kept w0 w0.w w
 x0:∀b,X b->¬w0.Em b
 glob:GlobOk E.glob X w0.w
 mg:∀g p,E.glob g=some p->¬w0.M g
 al0:∀id,id<E.n0->al id
 uS:∀id,id<E.n0->ρ id=w0.g id
structure gB(X:Nat->Prop)(w:World)(X':Nat->Prop)(w':World):Prop where
 size:w.heap.size<=w'.heap.size
 keep:∀b,b<w.heap.size->¬X b->w'.heap[b]?=w.heap[b]?/\¬X' b
theorem gB.refl(X:Nat->Prop)(w:World):gB X w X w:=⟨bNB _,fun _ _ h=>⟨rfl,h⟩⟩
theorem gB.trans{X X' bGU:Nat->Prop}{w w' aSF:World}(h:gB X w X' w')(h':gB X' w' bGU aSF):gB X w bGU aSF :=
 ⟨bNX h.size h'.size,fun b hb hx=>by
  obtain⟨e,wC⟩:=h.keep b hb hx;obtain⟨e',aZM⟩:=h'.keep b (bOB hb h.size) wC;exact⟨e'.trans e,aZM⟩⟩
section
variable {X X':Nat->Prop} {w w':World}
theorem gB.cell(h:gB X w X' w'){b off:Nat}(hb:b<w.heap.size)(hx:¬X b):w'.cell? ⟨b,off,none⟩=w.cell? ⟨b,off,none⟩ :=
 World.cell?_of_block (a:=⟨b,off,none⟩) (h.keep b hb hx).1
theorem nC.later(h:gB X w X' w'){s:S}{v:Value}(r:nC X w s v):nC X' w' s v:=by
 cases s with
 |sc u=>exact r
 |bot=>exact r
 |ints k ns =>
  obtain⟨A,c,hv,hle,hc⟩:=r;refine⟨A,c,hv,hle,fun i n hn=>?_⟩;obtain⟨b,off,hA,hb,hx,aEV⟩:=hc i n hn;exact⟨b,off,hA,bOB hb h.size,(h.keep b hb hx).2,(h.cell hb hx).trans aEV⟩
theorem nC.one{s:S}{v:Value}(r:nC X w s v):v.oneCell'=true:=by
 cases s with
 |sc u=>obtain⟨rfl,h⟩:=r;exact h
 |bot=>exact r
 |ints k ns=>obtain⟨A,c,rfl,_⟩:=r;rfl
theorem gI.later(h:gB X w X' w'){cs:List S}{vs:List Value}(r:gI X w cs vs):gI X' w' cs vs :=
 ⟨r.1,fun i s u hs hu=>(r.2 i s u hs hu).later h⟩
theorem rI.later(h:gB X w X' w'){b off:Nat}{cs:List S}(r:rI X w b off cs):rI X' w' b off cs:=by
 intro i s hs;obtain⟨hb,hx,u,hu,hr⟩:=r i s hs;exact⟨bOB hb h.size,(h.keep b hb hx).2,u,(h.cell hb hx).trans hu,hr.later h⟩
theorem vJ.later(h:gB X w X' w'){c:rH}{arr:Array Value}(r:vJ X w c arr):vJ X' w' c arr:=by
 cases c with
 |ints k ns=>exact r
 |cells cs=>exact⟨r.1,fun i s hs=>let ⟨u,hu,hr⟩:=r.2 i s hs;⟨u,hu,hr.later h⟩⟩
end
def sameShape(b b':iM):Prop:=(∀k ns,b'.cont=.ints k ns->∃k' lC,b.cont=.ints k' lC/\lC.length=ns.length)/\∀cs,b'.cont=.cells cs->∃Hu,b.cont=.cells Hu/\Hu.length=cs.length
theorem sameShape.refl(b:iM):sameShape b b:=⟨fun k ns e=>⟨k,ns,e,rfl⟩,fun cs e=>⟨cs,e,rfl⟩⟩
section
variable {ρ ρ':Nat->Nat} {hp hp':Nat->Option iM} {X X':Nat->Prop} {w w':World} {al:Nat->Prop}
def tB(ρ ρ':Nat->Nat)(hp hp':Nat->Option iM)(w w':World)(al:Nat->Prop):Prop :=
 ∀id,al id->ρ' id=ρ id/\∀b',hp' id=some b'->∃b,hp id=some b/\sameShape b b'/\jR w' (ρ id)=jR w (ρ id)
theorem tB.refl(ρ:Nat->Nat)(hp:Nat->Option iM)(w:World)(al:Nat->Prop):tB ρ ρ hp hp w w al :=
 fun _ _=>⟨rfl,fun b h=>⟨b,h,sameShape.refl _,rfl⟩⟩
theorem aAW.later(h:gB X w X' w')(hh:tB ρ ρ' hp hp' w w' al){l:L}{v:Value}(pK:∀id∈refsL l,al id)(r:aAW ρ hp X w l v):aAW ρ' hp' X' w' l v:=by
 cases l with
 |s x=>exact nC.later h r
 |rows sz n f =>
  obtain⟨A,c,hv,hle,hc⟩:=r;refine⟨A,c,hv,hle,fun i hi=>?_⟩;obtain⟨hl,b,off,hA,Qw⟩:=hc i hi;exact⟨hl,b,off,hA,Qw.later h⟩
 |Jw cs=>obtain⟨b,off,hv,hc⟩:=r;exact⟨b,off,hv,hc.later h⟩
 |Of k ns=>obtain⟨b,off,hv,hc⟩:=r;exact⟨b,off,hv,hc.later h⟩
 |ptr id off =>
  have hr:v=.pointer (some ⟨ρ id,off,none⟩):=r;show v=.pointer (some ⟨ρ' id,off,none⟩);rw[(hh id (pK id (by simp[refsL]))).1];exact hr
 |Mu id i =>
  obtain⟨hv,hc⟩:=r;obtain⟨e,hb⟩:=hh id (pK id (by simp[refsL]));refine⟨by rw[e];exact hv,fun b' k ns h1 h2=>?_⟩;obtain⟨b,h3,h4,_⟩:=hb b' h1;obtain⟨k',lC,h5,h6⟩:=h4.1 k ns h2;have:=hc b k' lC h3 h5;omega
 |buf id n =>
  obtain⟨cap,hv,hle,hc,aMW⟩:=r;obtain⟨e,hb⟩:=hh id (pK id (by simp[refsL]));refine⟨cap,by rw[e];exact hv,hle,fun b' k ns h1 h2=>?_,fun b' cs h1 h2=>?_⟩
  ·obtain⟨b,h3,h4,h7⟩:=hb b' h1;obtain⟨k',lC,h5,h6⟩:=h4.1 k ns h2;have:=hc b k' lC h3 h5;rw[e,h7];exact⟨by omega,this.2⟩
  ·obtain⟨b,h3,h4,h7⟩:=hb b' h1;obtain⟨Hu,h5,h6⟩:=h4.2 cs h2;obtain⟨sz,h8,h9⟩:=aMW b Hu h3 h5;rw[e,h7];exact⟨sz,by omega,h9⟩
 |view id off n =>
  obtain⟨o',cap,hv,hle,Xo,zR,hc⟩:=r;obtain⟨e,hb⟩:=hh id (pK id (by simp[refsL]));refine⟨o',cap,by rw[e];exact hv,hle,Xo,zR,fun b' k ns h1 h2=>?_⟩;obtain⟨b,h3,h4,h7⟩:=hb b' h1;obtain⟨k',lC,h5,h6⟩:=h4.1 k ns h2;have:=hc b k' lC h3 h5;rw[e,h7];exact⟨by omega,this.2⟩
theorem Bk.later(h:gB X w X' w')(hh:tB ρ ρ' hp hp' w w' al){x:V}{v:Value}(pK:∀id∈refsV x,al id)(r:Bk ρ hp X w x v):Bk ρ' hp' X' w' x v:=by
 cases x with
 |one l=>exact aAW.later h hh pK r
 |agg cs=>obtain⟨arr,hv,hr⟩:=r;exact⟨arr,hv,hr.later h⟩
theorem vK.later(h:gB X w X' w')(hh:tB ρ ρ' hp hp' w w' al){x:A}{v:Value}(pK:∀id∈refs x,al id)(r:vK ρ hp X w x v):vK ρ' hp' X' w' x v:=by
 cases x with
 |v x=>exact Bk.later h hh pK r
 |any=>trivial
 |Iy xs =>
  obtain⟨arr,hv,hl,hr⟩:=r;refine⟨arr,hv,hl,fun i x u hx hu=>Bk.later h hh (fun id tZ=>pK id ?_) (hr i x u hx hu)⟩;exact List.mem_flatMap.2 ⟨x,bNK hx,tZ⟩
end
theorem gX.next{E:Env}{X:Nat->Prop}{w0:Old}{ρ ρ':Nat->Nat}{al al':Nat->Prop}{fr:Nat->A}{hp hp':Nat->Option iM}{a:Act}{w w':World}{o:Oper}{x:A}{v:Value}
  (h:gX E X w0 ρ al fr hp a w) (hd:hI E.nt o=true)
  (hl:gB (XO X ρ hp) w (XO X ρ' hp') w') (hb:Kept w0 w w')
  (hh:tB ρ ρ' hp hp' w w' al)
  (Er:∀id b,hp' id=some b->w0.zF E.n0 id (ρ' id)/\Bl (XO X ρ' hp') w' (ρ' id) b)
  (xA:∀id So b b',hp' id=some b->hp' So=some b'->ρ' id=ρ' So->id=So)
  (pK:∀id,al id->al' id) (aPK:∀id b,hp' id=some b->al' id)
  (hx:vK ρ' hp' (XO X ρ' hp') w' x v) (aTL:∀id∈refs x,al' id) :
  gX E X w0 ρ' al' (zE o x fr) hp' (a.put o.dst v) w':=by
 have key:∀t,vK ρ' hp' (XO X ρ' hp') w' (zE o x fr t) ((a.put o.dst v).tmps.getD t undef)/\∀id∈refs (zE o x fr t),al' id:=by
  intro t;unfold zE Act.put;cases Zx:o.dst with
  |none=>exact⟨vK.later hl hh (h.alr t) (h.fr t),fun id tZ=>pK id (h.alr t id tZ)⟩
  |some d =>
   have iN:d<a.tmps.size:=by rw[h.sz];unfold hI at hd;rw[Zx]at hd;simpa using hd
   simp only[xU];cases bFT:bNC t d with
   |true =>
    obtain rfl:t=d:=bNP bFT;simp only[cond_true];refine⟨?_,aTL⟩;have e:(a.tmps.setIfInBounds t v).getD t undef=v:=by simp[Array.getD,iN]
    rw[e];exact hx
   |false =>
    have Br:t≠d:=bPF bFT;simp only[cond_false];have e:(a.tmps.setIfInBounds d v).getD t undef=a.tmps.getD t undef:=by
     simp only[Array.getD_eq_getD_getElem?,Array.getElem?_setIfInBounds];rw[if_neg (fun h=>Br h.symm)]
    rw[e];exact⟨vK.later hl hh (h.alr t) (h.fr t),fun id tZ=>pK id (h.alr t id tZ)⟩
 exact { fr:=fun t=>(key t).1,sz:=by unfold Act.put;cases o.dst <;> simp[h.sz],nod:=by unfold Act.put;cases o.dst <;> exact h.nod,blk:=Er,inj:=xA,alh:=aPK,alr:=fun t=>(key t).2,below:=h.below.trans hb,x0:=h.x0,glob:=h.glob,mg:=h.mg,al0:=fun id hi=>pK id (h.al0 id hi),uS:=fun id hi=>(hh id (h.al0 id hi)).1.trans (h.uS id hi) }
theorem gX.pure{E:Env}{X:Nat->Prop}{w0:Old}{ρ:Nat->Nat}{al:Nat->Prop}{fr:Nat->A}{hp:Nat->Option iM}{a:Act}{w:World}{o:Oper}{x:A}{v:Value}
  (h:gX E X w0 ρ al fr hp a w) (hd:hI E.nt o=true) (hx:vK ρ hp (XO X ρ hp) w x v) (aTL:∀id∈refs x,al id) :
  gX E X w0 ρ al (zE o x fr) hp (a.put o.dst v) w :=
 h.next hd (gB.refl _ _) (Kept.refl _ _) (tB.refl _ _ _ _) h.blk h.inj (fun _ h=>h) h.alh hx aTL
theorem gX.Nh{E:Env}{X:Nat->Prop}{w0:Old}{ρ:Nat->Nat}{al:Nat->Prop}{fr:Nat->A}{hp:Nat->Option iM}{a:Act}{w:World}
  (h:gX E X w0 ρ al fr hp a w):GlobOk E.glob (XO X ρ hp) w:=by
 intro g k ns hg;obtain⟨h1,h2,h3⟩:=h.glob g k ns hg;have hm:¬w0.Em g:=by
  rintro (hm |hm)
  ·omega
  ·exact h.mg g _ hg hm
 have hx:¬XO X ρ hp g:=by
  rintro (ho |⟨id,b',e1,e2⟩)
  ·exact h2 ho
  ·exact hm (e2▸(h.blk id b' e1).1.Em)
 refine⟨bOB h1 h.below.size,hx,fun i s hs=>?_⟩;obtain⟨_,_,u,hu,hr⟩:=h3 i s hs;refine⟨bOB h1 h.below.size,hx,u,(World.cell?_of_block (a:=⟨g,0+i,none⟩) (h.below.block g hm)).trans hu,?_⟩;unfold tW at hs;rw[bNF]at hs;obtain⟨m,_,rfl⟩:=Option.map_eq_some_iff.1 hs;exact hr
theorem gX.ev{E:Env}{X:Nat->Prop}{w0:Old}{ρ:Nat->Nat}{al:Nat->Prop}{fr:Nat->A}{hp:Nat->Option iM}{a:Act}{w:World}
  (h:gX E X w0 ρ al fr hp a w) (x:Operand):vK ρ hp (XO X ρ hp) w (evA E fr x) (a.eval x)/\∀id∈refs (evA E fr x),al id:=by
 cases x with
 |tmp t=>exact⟨h.fr t,h.alr t⟩
 |const v =>
  simp only[evA];split
  ·rename_i hv;exact⟨⟨rfl,hv⟩,by simp[refs,refsV,refsL]⟩
  ·exact⟨trivial,by simp[refs]⟩
 |func f=>exact⟨⟨rfl,rfl⟩,by simp[evA,refs,refsV,refsL]⟩
 |global g =>
  simp only[evA];cases hg:E.glob g with
  |none=>exact⟨trivial,by simp[refs]⟩
  |some p =>
   obtain⟨k,ns⟩:=p;refine⟨⟨g,0,rfl,?_⟩,by simp[refs,refsV,refsL]⟩;exact(h.Nh g k ns hg).2.2
end AI
namespace AI
open Go Go.RowKit
theorem Dd{R:Type}(op:BinOp)(x y:Value)(K:Value->Option R):binK op x y K=(binK op x y some).bind K:=by
 unfold binK;split
 ·split <;> (repeat' split) <;> first |rfl | (simp;done)
 ·split <;> (repeat' split) <;> first |rfl | (generalize Ieee.Format.add _ _ _=m;cases m <;> rfl) | (generalize Ieee.Format.sub _ _ _=m;cases m <;> rfl) | (generalize Ieee.Format.mul _ _ _=m;cases m <;> rfl) | (generalize Ieee.Format.div _ _ _=m;cases m <;> rfl)
 ·split <;> rfl
 ·rfl
theorem Fw{R:Type}(op:UnOp)(x:Value)(K:Value->Option R):unK op x K=(unK op x some).bind K:=by
 unfold unK;split <;> simp
theorem zI{R:Type}(k:TK)(x:Value)(K:Value->Option R):convK k x K=(convK k x some).bind K:=by
 unfold convK;split
 ·simp
 ·simp
 ·rename_i s b;cases ((FloatKind.decode s b).toInt .zero)with
  |none=>rfl
  |some n=>simp only[bOS];split <;> simp
 ·split <;> simp
 ·rfl
theorem fdiv_pow(a:Int)(n:Nat):a.fdiv (2^n)=a/((2^n:Nat):Int):=by
 rw[Int.fdiv_eq_ediv_of_nonneg _ (by exact Int.le_of_lt (Int.pow_pos (by omega)))];simp
theorem Rf{P:Program}(op:BinOp)(t:TypeId)(x y:Operand)(k k':IntKind)(a b:Int)(w:World):(eqGuard op t x y (.int k a) (.int k' b)).run P w=.ok () w:=by
 unfold eqGuard;split <;> rfl
theorem Js{P:Program}(op:BinOp)(t:TypeId)(x y:Operand)(k k':FloatKind)(a b:Nat)(w:World):(eqGuard op t x y (.float k a) (.float k' b)).run P w=.ok () w:=by
 unfold eqGuard;split <;> rfl
theorem Np{P:Program}(op:BinOp)(t:TypeId)(x y:Operand)(a b:Bool)(w:World):(eqGuard op t x y (.bool a) (.bool b)).run P w=.ok () w:=by
 unfold eqGuard;split <;> rfl
theorem aLD{P:Program}(op:BinOp)(t:TypeId)(k k':IntKind)(a b:Int)(r:Value)(w:World)(h:binK op (.int k a) (.int k' b) some=some r) :
  (binOp op t (.int k a) (.int k' b)).run P w=.ok r w/\r.oneCell'=true:=by
 cases op <;> simp only[binK]at h
 case shl =>
  split at h <;> cases h;rename_i hb;simp[binOp,Op.shift,hb,Value.oneCell']
 case shr =>
  split at h <;> cases h;rename_i hb;simp[binOp,Op.shift,fdiv_pow,hb,Value.oneCell']
 case quo =>
  split at h <;> try (cases h;done)
  split at h <;> cases h;rename_i hk hb;simp[binOp,Op.intDiv,hk,hb,Value.oneCell']
 case rem =>
  split at h <;> try (cases h;done)
  split at h <;> cases h;rename_i hk hb;simp[binOp,Op.intDiv,hk,hb,Value.oneCell']
 all_goals
  split at h <;> cases h;rename_i hk;subst hk;simp[binOp,Op.intArith,Op.intCmp,Op.intBits,sF,bitsI0,Value.oneCell']
theorem aAU{P:Program}(op:BinOp)(t:TypeId)(k k':FloatKind)(a b:Nat)(r:Value)(w:World)(h:binK op (.float k a) (.float k' b) some=some r) :
  (binOp op t (.float k a) (.float k' b)).run P w=.ok r w/\r.oneCell'=true:=by
 cases op <;> simp only[binK]at h
 case add =>
  split at h <;> try (cases h;done)
  rename_i hk;subst hk;obtain⟨m,hm,hr⟩:=Option.bind_eq_some_iff.1 h;cases hr;simp[binOp,Op.floatArith,hm,Value.oneCell']
 case sub =>
  split at h <;> try (cases h;done)
  rename_i hk;subst hk;obtain⟨m,hm,hr⟩:=Option.bind_eq_some_iff.1 h;cases hr;simp[binOp,Op.floatArith,hm,Value.oneCell']
 case mul =>
  split at h <;> try (cases h;done)
  rename_i hk;subst hk;obtain⟨m,hm,hr⟩:=Option.bind_eq_some_iff.1 h;cases hr;simp[binOp,Op.floatArith,hm,Value.oneCell']
 case quo =>
  split at h <;> try (cases h;done)
  rename_i hk;subst hk;obtain⟨m,hm,hr⟩:=Option.bind_eq_some_iff.1 h;cases hr;simp[binOp,Op.floatArith,hm,Value.oneCell']
 all_goals (try (cases h;done))
 all_goals
  split at h <;> cases h;rename_i hk;subst hk;simp[binOp,Op.floatCmp,Value.oneCell']
theorem aAT{P:Program}(op:BinOp)(t:TypeId)(x y:Operand)(a b r:Value)(w:World)(hb:∀q,a=.bool q->P.underlying t=some .bool)(h:binK op a b some=some r) :
  (do eqGuard op t x y a b;binOp op t a b:Sem Value).run P w=.ok r w/\r.oneCell'=true:=by
 cases a with
 |int k a =>
  cases b with
  |int k' b=>rw[Sem.run_bind,Rf];exact aLD op t k k' a b r w h
  |_=>simp[binK]at h
 |float k a =>
  cases b with
  |float k' b=>rw[Sem.run_bind,Js];exact aAU op t k k' a b r w h
  |_=>simp[binK]at h
 |bool a =>
  cases b with
  |bool b =>
   rw[Sem.run_bind,Np];have ht:=hb a rfl;cases op <;> simp only[binK]at h <;> cases h
   ·exact⟨run_eql_bool w t a b ht,rfl⟩
   ·refine⟨?_,rfl⟩;rw[Result.andThen_ok];simp only[binOp];rw[Sem.run_bind,run_equal_bool w t a b ht];rfl
  |_=>simp[binK]at h
 |_=>simp[binK]at h
theorem aBS{P:Program}(op:UnOp)(a r:Value)(w:World)(h:unK op a some=some r) :
  (Op.unary op a).run P w=.ok r w/\r.oneCell'=true:=by
 unfold unK at h;split at h <;> cases h <;> simp[Op.unary,Op.intArith,Op.intBits,sF,bitsI0,Value.oneCell']
end AI
namespace AI
open Go Go.RowKit
section
variable {E:Env} {X:Nat->Prop} {w0:Old} {ρ ρ':Nat->Nat} {al al':Nat->Prop} {fr:Nat->A} {hp hp':Nat->Option iM} {a:Act} {w w':World}
theorem gX.change(h:gX E X w0 ρ al fr hp a w)
  (hl:gB (XO X ρ hp) w (XO X ρ' hp') w') (hb:Kept w0 w w')
  (hh:tB ρ ρ' hp hp' w w' al)
  (Er:∀id b,hp' id=some b->w0.zF E.n0 id (ρ' id)/\Bl (XO X ρ' hp') w' (ρ' id) b)
  (xA:∀id So b b',hp' id=some b->hp' So=some b'->ρ' id=ρ' So->id=So)
  (pK:∀id,al id->al' id) (aPK:∀id b,hp' id=some b->al' id):gX E X w0 ρ' al' fr hp' a w' :=
 { fr:=fun t=>vK.later hl hh (h.alr t) (h.fr t),sz:=h.sz,nod:=h.nod,blk:=Er,inj:=xA,alh:=aPK,alr:=fun t id tZ=>pK id (h.alr t id tZ),below:=h.below.trans hb,x0:=h.x0,glob:=h.glob,mg:=h.mg,al0:=fun id hi=>pK id (h.al0 id hi),uS:=fun id hi=>(hh id (h.al0 id hi)).1.trans (h.uS id hi) }
def Cons(u:oC):Prop:=∀p∈u,p.2=none
theorem jE(u v:oC)(hp:Nat->Option iM):applyUps (u ++ v) hp=applyUps v (applyUps u hp):=by
 induction u generalizing hp with
 |nil=>rfl
 |cons p u ih=>obtain⟨i,b⟩:=p;simp only[bOT,applyUps];exact ih _
theorem bD{α:Type}(f:Nat->α)(d:Nat)(x:α):xU f d x d=x:=by simp[xU]
theorem eK{α:Type}(f:Nat->α){d i:Nat}(x:α)(h:i≠d):xU f d x i=f i:=by
 have:bNC i d=false:=by cases hb:bNC i d with
  |false=>rfl
  |true=>exact absurd (bNP hb) h
 simp[xU,this]
theorem fQ{u:oC}(hu:Cons u){hp:Nat->Option iM}{i:Nat}{b:iM}(h:applyUps u hp i=some b):hp i=some b:=by
 induction u generalizing hp with
 |nil=>exact h
 |cons p u ih =>
  obtain⟨j,c⟩:=p;have hc:c=none:=hu (j,c) (by simp);subst hc;have:=ih (fun p hp=>hu p (by simp[hp])) h
  by_cases aRI:i=j
  ·subst aRI;rw[bD]at this;cases this
  ·rwa [eK _ _ aRI]at this
theorem Kc{u:oC}(hu:Cons u){hp:Nat->Option iM}{i:Nat}(h:(i,none)∈u):applyUps u hp i=none:=by
 induction u generalizing hp with
 |nil=>cases h
 |cons p u ih =>
  obtain⟨j,c⟩:=p;have hc:c=none:=hu (j,c) (by simp);subst hc;have Mx:Cons u:=fun p hp=>hu p (by simp[hp])
  rcases List.mem_cons.1 h with h |h
  ·cases h;cases hq:applyUps ((i,none) :: u) hp i with
   |none=>rfl
   |some b=>have:=fQ Mx (hp:=xU hp i none) hq;rw[bD]at this;cases this
  ·exact ih Mx h
theorem aIM.of_cons{u:oC}(hu:Cons u){b:Nat}(h:aIM ρ (applyUps u hp) b):aIM ρ hp b:=by
 obtain⟨id,bl,h1,h2⟩:=h;exact⟨id,bl,fQ hu h1,h2⟩
theorem gB.cons{u:oC}(hu:Cons u):gB (XO X ρ hp) w (XO X ρ (applyUps u hp)) w :=
 ⟨bNB _,fun _ _ hx=>⟨rfl,fun h=>hx (h.imp id (aIM.of_cons hu))⟩⟩
theorem Bl.later{X X':Nat->Prop}{g:Nat}{b:iM}(h:gB X w X' w')(hg:w'.heap[g]?=w.heap[g]?)(r:Bl X w g b):Bl X' w' g b:=by
 obtain⟨arr,h1,h2⟩:=r;exact⟨arr,hg.trans h1,h2.later h⟩
theorem gX.cons(h:gX E X w0 ρ al fr hp a w){u:oC}(hu:Cons u):gX E X w0 ρ al fr (applyUps u hp) a w :=
 h.change (gB.cons hu) (Kept.refl _ _)
  (fun _ _=>⟨rfl,fun b' vT=>⟨b',fQ hu vT,sameShape.refl _,rfl⟩⟩)
  (fun id b hb=>⟨(h.blk id b (fQ hu hb)).1,(h.blk id b (fQ hu hb)).2.later (gB.cons hu) rfl⟩)
  (fun id So b b' h1 h2 e=>h.inj id So b b' (fQ hu h1) (fQ hu h2) e)
  (fun _ h=>h) (fun id b hb=>h.alh id b (fQ hu hb))
theorem Bl.lt{X:Nat->Prop}{g:Nat}{b:iM}(r:Bl X w g b):g<w.heap.size:=by
 obtain⟨arr,h1,_⟩:=r;exact(Array.getElem?_eq_some_iff.1 h1).1
theorem uB(w:World)(o:Obj):(w.alloc o).heap[w.heap.size]?=some o:=heap_alloc_new w o
theorem uA(w:World)(o:Obj){k:Nat}(h:k<w.heap.size):(w.alloc o).heap[k]?=w.heap[k]?:=Below.heap_alloc w o k h
theorem gX.gZ(h:gX E X w0 ρ al fr hp a w){id:Nat}{b:iM}(hb:hp id=some b):ρ id<w.heap.size:=(h.blk id b hb).2.lt
theorem Kept.alloc{o:Old}{w:World}(h:o.w.heap.size<=w.heap.size)(x:Obj):Kept o w (w.alloc x) :=
 ⟨rfl,rfl,rfl,by simp,fun _ hb=>uA w x (by have:=Old.Qb hb;omega),fun b hb=>uE (uA w x (by have:=o.aST b hb;omega))⟩
theorem gX.alloc(h:gX E X w0 ρ al fr hp a w){id:Nat}(tZ:¬al id)(pK:∀i,al i->al' i)(qA:al' id)(e:TypeId)(c:rH)(arr:Array Value)(hc:vJ (XO X ρ hp) w c arr) :
  gX E X w0 (xU ρ id w.heap.size) al' fr (xU hp id (some ⟨e,c⟩)) a (w.alloc (.cells arr e)):=by
 have Br:∀i,al i->i≠id:=fun i hi e=>tZ (e▸hi)
 have hl:gB (XO X ρ hp) w (XO X (xU ρ id w.heap.size) (xU hp id (some ⟨e,c⟩))) (w.alloc (.cells arr e)):=by
  refine⟨by simp,fun b hb hx=>⟨uA w _ hb,fun ho=>?_⟩⟩;rcases ho with ho |⟨i,bl,h1,h2⟩
  ·exact hx (.inl ho)
  ·by_cases hi:i=id
   ·subst hi;rw[bD]at h2;omega
   ·rw[eK _ _ hi]at h1 h2;exact hx (.inr ⟨i,bl,h1,h2⟩)
 refine h.change hl (Kept.alloc h.below.size _) ?_ ?_ ?_ pK ?_
 ·intro i hi;refine⟨eK _ _ (Br i hi),fun b' vT=>?_⟩;rw[eK _ _ (Br i hi)]at vT;refine⟨b',vT,sameShape.refl _,?_⟩;unfold jR;rw[uA w _ (h.gZ vT)]
 ·intro i b hb
  by_cases hi:i=id
  ·subst hi;rw[bD]at hb;cases hb;refine⟨by rw[bD];exact .inl h.below.size,arr,by rw[bD];exact uB w _,hc.later hl⟩
  ·rw[eK _ _ hi]at hb;rw[eK _ _ hi];exact⟨(h.blk i b hb).1,(h.blk i b hb).2.later hl (uA w _ (h.gZ hb))⟩
 ·intro i i' b b' h1 h2 e
  by_cases hi:i=id
  ·by_cases Xp:i'=id
   ·rw[hi,Xp]
   ·subst hi;rw[eK _ _ Xp]at h2;rw[bD,eK _ _ Xp]at e;have:=h.gZ h2;omega
  ·by_cases Xp:i'=id
   ·subst Xp;rw[eK _ _ hi]at h1;rw[bD,eK _ _ hi]at e;have:=h.gZ h1;omega
   ·rw[eK _ _ hi]at h1 e;rw[eK _ _ Xp]at h2 e;exact h.inj i i' b b' h1 h2 e
 ·intro i b hb
  by_cases hi:i=id
  ·subst hi;exact qA
  ·rw[eK _ _ hi]at hb;exact pK i (h.alh i b hb)
theorem gX.setRow(h:gX E X w0 ρ al fr hp a w){id:Nat}{b:iM}(hb:hp id=some b)(c:rH)(arr:Array Value)(hs:sameShape b ⟨b.e,c⟩)(pY:jR w (ρ id)=arr.size)(hc:vJ (XO X ρ hp) w c arr) :
  gX E X w0 ρ al fr (xU hp id (some ⟨b.e,c⟩)) a (w.setRow (ρ id) arr):=by
 obtain⟨Hk,bCY,hg,_⟩:=h.blk id b hb;have qA:(w.setRow (ρ id) arr).heap[ρ id]?=some (.cells arr b.e (0,0)):=setRow_heap w (ρ id) bCY arr b.e _ hg;have hold:∀k,k≠ρ id->(w.setRow (ρ id) arr).heap[k]?=w.heap[k]?:=fun k hk=>setRow_other w (ρ id) k arr (fun e=>hk e)
 have pZ:∀b',aIM ρ (xU hp id (some ⟨b.e,c⟩)) b'->aIM ρ hp b':=by
  rintro b' ⟨i,bl,h1,h2⟩
  by_cases hi:i=id
  ·subst hi;exact⟨i,b,hb,h2⟩
  ·rw[eK _ _ hi]at h1;exact⟨i,bl,h1,h2⟩
 have hl:gB (XO X ρ hp) w (XO X ρ (xU hp id (some ⟨b.e,c⟩))) (w.setRow (ρ id) arr):=by
  refine⟨by simp[World.setRow],fun b' vT hx=>⟨hold b' (fun e=>hx (.inr ⟨id,b,hb,e.symm⟩)),fun ho=>hx (ho.imp (fun h=>h) (pZ b'))⟩⟩
 have xA:∀i b',hp i=some b'->i≠id->ρ i≠ρ id:=fun i b' hi Br e=>Br (h.inj i id b' b hi hb e)
 refine h.change hl ⟨rfl,rfl,rfl,by simp[World.setRow],fun k hk=>hold k (fun e=>hk (e▸Hk.Em)),fun k _=>by
  by_cases hk:k=ρ id
  ·rw[hk,pY];unfold jR;rw[qA]
  ·exact uE (hold k hk)⟩ ?_ ?_ ?_ (fun _ h=>h) ?_
 ·intro i _;refine⟨rfl,fun b' vT=>?_⟩
  by_cases hi:i=id
  ·subst hi;rw[bD]at vT;cases vT;refine⟨b,hb,hs,?_⟩;rw[pY];unfold jR;rw[qA]
  ·rw[eK _ _ hi]at vT;refine⟨b',vT,sameShape.refl _,?_⟩;unfold jR;rw[hold _ (xA i b' vT hi)]
 ·intro i b' vT
  by_cases hi:i=id
  ·subst hi;rw[bD]at vT;cases vT;exact⟨Hk,arr,qA,hc.later hl⟩
  ·rw[eK _ _ hi]at vT;exact⟨(h.blk i b' vT).1,(h.blk i b' vT).2.later hl (hold _ (xA i b' vT hi))⟩
 ·intro i i' b1 b2 h1 h2 e;have f:∀i b1,xU hp id (some ⟨b.e,c⟩) i=some b1->∃b2,hp i=some b2:=by
   intro i b1 h1
   by_cases hi:i=id
   ·subst hi;exact⟨b,hb⟩
   ·rw[eK _ _ hi]at h1;exact⟨b1,h1⟩
  obtain⟨c1,aAB⟩:=f i b1 h1;obtain⟨c2,aRR⟩:=f i' b2 h2;exact h.inj i i' c1 c2 aAB aRR e
 ·intro i b1 h1
  by_cases hi:i=id
  ·subst hi;exact h.alh i b hb
  ·rw[eK _ _ hi]at h1;exact h.alh i b1 h1
theorem gX.Qz(h:gX E X w0 ρ al fr hp a w){id:Nat}{b:iM}(hb:hp id=some b){u:oC}(hu:Cons u)(tZ:(id,none)∈u):¬XO X ρ (applyUps u hp) (ρ id):=by
 rintro (hx |⟨i,bl,h1,h2⟩)
 ·exact h.x0 _ hx (h.blk id b hb).1.Em
 ·have:=h.inj i id bl b (fQ hu h1) hb h2;subst this;rw[Kc hu tZ]at h1;cases h1
theorem gX.vD(h:gX E X w0 ρ al fr hp a w){id:Nat}{e:TypeId}{k:IntKind}{ns:List Int}(hb:hp id=some ⟨e,.ints k ns⟩){i:Nat}{n:Int}(hi:ns[i]?=some n):w.cell? ⟨ρ id,i,none⟩=some (.int k n):=by
 obtain⟨_,arr,hg,hc⟩:=h.blk id _ hb;rw[cell_of_row w (ρ id) i arr e (0,0) hg];exact hc.2 i n hi
theorem tK(h:gX E X w0 ρ al fr hp a w){x:A}{v:Value}(hr:vK ρ hp (XO X ρ hp) w x v){cs:List S}{u:oC}(hc:cellsOf hp x=some (cs,u)) :
  Cons u/\gI (XO X ρ (applyUps u hp)) w cs v.cells.toList:=by
 unfold cellsOf at hc;split at hc
 ·cases hc;obtain⟨arr,rfl,hs⟩:=hr;exact⟨(fun p hp=>by cases hp),hs⟩
 ·cases hc;rename_i x;have hr:nC _ w x v:=hr;refine⟨(fun p hp=>by cases hp),?_⟩;have e:v.cells.toList=[v]:=by
   have:=hr.one;cases v <;> first |rfl | (simp[Value.oneCell']at this)
  rw[e];refine⟨rfl,fun i s u hs hu=>?_⟩
  match i with
  |0=>simp at hs hu;subst hs;subst hu;exact hr
  |i+1=>simp at hs
 ·split at hc <;> cases hc;rename_i id n o e k ns hb;obtain⟨cap,rfl,yO,bBP,_⟩:=hr;have hu:Cons [(id,none)]:=fun p hp=>by simp at hp;subst hp;rfl
  refine⟨hu,rfl,fun i s u hs Mx=>?_⟩
  match i with
  |0 =>
   simp[Value.cells]at hs Mx;subst hs;subst Mx;obtain⟨hn,_⟩:=bBP _ k ns hb rfl;subst hn;refine⟨_,cap,rfl,yO,fun i n hi=>⟨ρ id,0,rfl,h.gZ hb,h.Qz hb hu (by simp),?_⟩⟩;rw[bND];exact h.vD hb hi
  |i+1=>simp at hs
 ·split at hc <;> cases hc;rename_i id off n o e k ns hb;obtain⟨A0,cap,rfl,yO,hA,hlen⟩:=tN hr;have hu:Cons [(id,none)]:=fun p hp=>by simp at hp;subst hp;rfl
  have hl:=hlen _ k ns hb rfl;refine⟨hu,rfl,fun i s u hs Mx=>?_⟩
  match i with
  |0 =>
   simp[Value.cells]at hs Mx;subst hs;subst Mx;refine⟨A0,cap,by simp;omega,by simp;omega,fun i m hi=>?_⟩;have Je:i<n:=by
    have:=(List.getElem?_eq_some_iff.1 hi).1;simp at this;omega
   refine⟨ρ id,off,hA (by omega),h.gZ hb,h.Qz hb hu (by simp),?_⟩;refine h.vD hb ?_;rw[bNG Je,bNN]at hi;exact hi
  |i+1=>simp at hs
 ·cases hc
end
end AI
namespace AI
open Go Go.RowKit
def pW:TypeDesc->Bool
 | .struct _ | .array _ _=>true
 |_=>false
def Is(P:Program):TK->TypeDesc->Prop
 | .bool,d=>d=.bool
 | .int k,d=>d=.int k
 | .float k,d=>d=.float k
 | .other,d=>pW d=false
 | .struct fs,d=>∃fields,d=.struct fields/\fs.length=fields.size/\∀(i:Nat) (f:Field),fields[i]?=some f->∃fi fd,P.info? f.type=some fi/\P.underlying f.type=some fd/\fs[i]?=some (f.offset,fi.size,pW fd)
 | .arr len nV g,d=>∃e ei ed,d=.array len e/\P.info? e=some ei/\ei.size=nV/\P.underlying e=some ed/\pW ed=g
 | .slice e,d=>d=.slice e
 | .str,d=>d=.string
def eqChkF(P:Program):Nat->List Field->List IntKind->Bool
 |_,[],[]=>true
 |i,f :: r,k :: ks=>(f.name != "_")&&(bNC f.offset i&&((match P.underlying f.type with
  |some (.int k')=>decide (k'=k)
  |_=>false)&&eqChkF P (i+1) r ks))
 |_,_,_=>false
def aQZ(P:Program)(t:TypeId)(ks:List IntKind):Prop:=∃fields,P.underlying t=some (.struct fields)/\P.stoodInHeld t=false/\eqChkF P 0 fields.toList ks=true/\P.eqGuardType P.depth t=false
structure xJ(P:Program)(t:TypeId)(ti:TI):Prop where
 i:∃i,P.info? t=some i/\i.size=ti.size/\i.bytes=ti.bytes/\∃z,i.zero=some z/\z.cells.toList=ti.zero
 zl:ti.zero.length=ti.size
 zo:∀v∈ti.zero,v.oneCell'=true
 d:∃d,P.underlying t=some d/\Is P ti.kind d
 eq:∀ks,uQ ti=some ks->aQZ P t ks
def mJ(P:Program)(T:TypeId->Option TI):Prop:=∀t ti,T t=some ti->xJ P t ti
theorem Is.agg{P:Program}{k:TK}{d:TypeDesc}(h:Is P k d):pW d=k.isAgg:=by
 cases k with
 |other=>exact h
 |struct fs=>obtain⟨f,rfl,_⟩:=h;rfl
 |arr l e g=>obtain⟨_,_,_,rfl,_⟩:=h;rfl
 |_=>cases h;rfl
section
variable {P:Program} {t:TypeId} {ti:TI} {w:World}
theorem xJ.Km(h:xJ P t ti):(isAgg t).run P w=.ok ti.kind.isAgg w:=by
 obtain⟨d,hd,hk⟩:=h.d;rw[<-hk.agg];unfold isAgg;rw[Sem.run_bind,run_underlying hd];cases d <;> rfl
theorem Ae{k:IntKind}(hu:P.underlying t=some (.int k)){cs:Array Value}{i:Nat}{v:Value}(hv:cs[i]?=some v):(part t cs i).run P w=.ok v w:=by
 have ha:(isAgg t).run P w=.ok false w:=by simp[isAgg,Sem.run_bind,run_underlying hu]
 unfold part;rw[Sem.run_bind,ha];simp[hv]
theorem Yb(d:Nat)(xs ys:Array Value):∀(fs:List Field) (ks:List IntKind) (i:Nat) (cs ds:List S) (q:Bool),eqChkF P i fs ks=true->eqInts ks cs ds=some q ->
  (∀(j:Nat) (c:Value),cs[j]?=some (.sc c)->xs[i+j]?=some c)->(∀(j:Nat) (c:Value),ds[j]?=some (.sc c)->ys[i+j]?=some c)->(Op.eqFields (d+1) xs ys fs).run P w=.ok q w
 | [],ks,i,cs,ds,q,h,he,hx,hy=>by
  cases ks with
  |cons=>cases h
  |nil =>
   have:q=true:=by cases cs <;> cases ds <;> simp[eqInts]at he <;> exact he
   subst this;rfl
 |f :: r,ks,i,cs,ds,q,h,he,hx,hy=>by
  cases ks with
  |nil=>cases h
  |cons k ks =>
   obtain⟨a,b,r1,r2,rfl,rfl,q',hq,rfl⟩:∃a b r1 r2,cs=.sc (.int k a) :: r1/\ds=.sc (.int k b) :: r2/\∃q',eqInts ks r1 r2=some q'/\q=((a==b)&&q'):=by
    clear hx hy
    match cs,ds,he with
    | .sc (.int k1 a) :: r1,.sc (.int k2 b) :: r2,yP =>
     simp only[eqInts]at yP;split at yP
     ·rename_i hk;obtain⟨rfl,rfl⟩:=hk;obtain⟨q',hq,rfl⟩:=Option.map_eq_some_iff.1 yP;exact⟨a,b,r1,r2,rfl,rfl,q',hq,rfl⟩
     ·cases yP
   unfold eqChkF at h;simp only[bNH,bne_iff_ne,ne_eq]at h;obtain⟨hn,ho,hu,hr⟩:=h;have ho:=bNP ho;split at hu
   ·rename_i k' Mx;have x0:=hx 0 _ rfl;have y0:=hy 0 _ rfl;have ih:=Yb d xs ys r ks (i+1) r1 r2 q' hr hq (fun j c hc=>by have:=hx (j+1) c hc;rwa [show i+(j+1)=i+1+j from by omega]at this) (fun j c hc=>by have:=hy (j+1) c hc;rwa [show i+(j+1)=i+1+j from by omega]at this);rw[bOC,<-ho]at x0 y0;simp only[Op.eqFields,ne_eq,hn,not_false_eq_true,if_true,Sem.run_bind,Ae Mx x0,Ae Mx y0,Result.andThen_ok,run_equalIn_int w d f.type _ _ a b Mx];cases aXT:(a==b)with
    |true=>simpa [Sem.run_ite] using ih
    |false=>simp
   ·cases hu
theorem aPU{ks:List IntKind}(h:aQZ P t ks){xs ys:Array Value}{cs ds:List S}{q:Bool}(he:eqInts ks cs ds=some q)
  (hx:∀(j:Nat) (c:Value),cs[j]?=some (.sc c)->xs[j]?=some c) (hy:∀(j:Nat) (c:Value),ds[j]?=some (.sc c)->ys[j]?=some c) :
  (∀y z,(do eqGuard .eql t y z (.agg xs) (.agg ys);binOp .eql t (.agg xs) (.agg ys):Sem Value).run P w=.ok (.bool q) w)/\(∀y z,(do eqGuard .neq t y z (.agg xs) (.agg ys);binOp .neq t (.agg xs) (.agg ys):Sem Value).run P w=.ok (.bool (!q)) w):=by
 obtain⟨fields,hu,hs,hf,hg⟩:=h;have aBK:P.fieldsOf t=fields:=by simp[Program.fieldsOf,hu]
 have hr:(Op.equal t (.agg xs) (.agg ys)).run P w=.ok q w:=by
  show(Op.equalIn (9999+1) t (.agg xs) (.agg ys)).run P w=_;rw[run_equalIn_struct w 9999 t xs ys (by rw[aBK];exact hu) hs,aBK];exact Yb (w:=w) 9998 xs ys fields.toList ks 0 cs ds q hf he (fun j c hc=>by rw[bND];exact hx j c hc) (fun j c hc=>by rw[bND];exact hy j c hc)
 constructor <;> intro y z <;> rw[Sem.run_bind,run_eqGuard_agg (w:=w) _ t y z xs ys hg,Result.andThen_ok]
 ·show(do pure (Value.bool (<-Op.equal t (.agg xs) (.agg ys))):Sem Value).run P w=_;rw[Sem.run_bind,hr];rfl
 ·show(do pure (Value.bool (!(<-Op.equal t (.agg xs) (.agg ys)))):Sem Value).run P w=_;rw[Sem.run_bind,hr];rfl
theorem xJ.run_sizeOf(h:xJ P t ti):(sizeOf t).run P w=.ok ti.size w:=by
 obtain⟨i,hi,hs,_⟩:=h.i;simp[sizeOf,typeInfo,hi,hs]
theorem xJ.aDA(h:xJ P t ti):∃z,(zeroValue t).run P w=.ok z w/\z.cells.toList=ti.zero:=by
 obtain⟨i,hi,hs,hb,z,hz,hc⟩:=h.i;exact⟨z,by simp[zeroValue,typeInfo,hi,hz],hc⟩
end
theorem aR{α:Type}{l:List α}{i:Nat}{x:α}(h:l[i]?=some x):i<l.length:=(List.getElem?_eq_some_iff.1 h).1
theorem aY{α:Type}{l:List α}{i:Nat}(h:i<l.length):∃x,l[i]?=some x:=⟨l[i],bNR h⟩
theorem jY(b off n:Nat):(⟨b,off,none⟩:Addr).add n=⟨b,off+n,none⟩:=by unfold Addr.add;split <;> simp_all
theorem Ph{X:Nat->Prop}{w:World}{zs:List Value}(hz:∀v∈zs,v.oneCell'=true):gI X w (zs.map .sc) zs:=by
 refine⟨by simp,fun i s u hs hu=>?_⟩;simp only[bNF,hu,bNO,Option.some.injEq]at hs;subst hs;exact⟨rfl,hz u (bNK hu)⟩
theorem aBQ{X:Nat->Prop}{w:World}{zs:List Value}(wd:Option IntKind)(hz:∀v∈zs,v.oneCell'=true):gI X w (zs.map (wideS wd)) zs:=by
 refine⟨by simp,fun i s u hs hu=>?_⟩;simp only[bNF,hu,bNO,Option.some.injEq]at hs;subst hs;have h0:=hz u (bNK hu);unfold wideS;split
 ·exact⟨rfl,h0⟩
 ·split
  ·exact⟨none,0,rfl,bNB _,fun i n hn=>by simp at hn⟩
  ·exact⟨rfl,h0⟩
theorem gI.cells{X:Nat->Prop}{w:World}{cs:List S}{arr:Array Value}(h:gI X w cs arr.toList):vJ X w (.cells cs) arr :=
 ⟨by have:=h.1;simp at this;omega,fun i s hs=>by
  have iN:=aR hs;rw[h.1]at iN;obtain⟨u,hu⟩:=aY iN;exact⟨u,by simpa using hu,h.2 i s u hs hu⟩⟩
theorem Mt{P:Program}{X:Nat->Prop}{w:World}{t:TypeId}{ti:TI}(hT:xJ P t ti){b off:Nat}{cs:List S}(hc:∀(i:Nat) (s:S),cs[i]?=some s->∃u,w.cell? ⟨b,off+i,none⟩=some u/\nC X w s u)
  {j:Nat} {x:V} (hp:partOf ti cs j=some x) {ρ:Nat->Nat} {hp':Nat->Option iM}:∃v,(loadVar t ⟨b,off+j,none⟩).run P w=.ok v w/\Bk ρ hp' X w x v/\refsV x=[]:=by
 unfold partOf at hp;unfold loadVar;rw[Sem.run_bind,hT.Km,Result.andThen_ok];split at hp
 ·rename_i Uk;split at hp
  ·rename_i hle;cases hp;rw[if_pos Uk,Sem.run_bind,hT.run_sizeOf,Result.andThen_ok];have hex:∀i,i<ti.size->∃u,w.cell? ⟨b,off+j+i,none⟩=some u/\∀s,cs[j+i]?=some s->nC X w s u:=by
    intro i hi;obtain⟨s,hs⟩:=aY (l:=cs) (i:=j+i) (by omega);obtain⟨u,hu,hr⟩:=hc (j+i) s hs;refine⟨u,by rw[<-hu];congr 2;omega,fun s' oB=>?_⟩;rw[hs]at oB;cases oB;exact hr
   obtain⟨f,hf⟩:∃f:Nat->Value,∀i,i<ti.size->w.cell? ⟨b,off+j+i,none⟩=some (f i)/\∀s,cs[j+i]?=some s->nC X w s (f i) :=
    ⟨fun i=>if h:i<ti.size then Classical.choose (hex i h)else undef,fun i hi=>by simp only[hi,dif_pos];exact Classical.choose_spec (hex i hi)⟩
   have hl:=run_loadCells_list (P:=P) w ⟨b,off+j,none⟩ ((bOL ti.size).map f) (fun i v hv=>by
    have hi:=aR hv;simp at hi;rw[jY,(hf i hi).1];simpa [hi] using hv)
   simp only[bOU,List.length_range]at hl;rw[Sem.run_bind,hl];refine⟨_,rfl,⟨_,rfl,⟨by simp;omega,fun i s u hs hu=>?_⟩⟩,rfl⟩;have hi:=aR hu;simp at hi;have Mx:u=f i:=by simpa [hi] using hu.symm
   subst Mx;refine(hf i hi).2 s ?_;rw[bNG hi,bNN]at hs;exact hs
  ·cases hp
 ·rename_i Uk;split at hp <;> cases hp;rename_i c bBN;obtain⟨u,hu,hr⟩:=hc j c bBN;refine⟨u,?_,hr,rfl⟩;rw[if_neg (by simpa using Uk),run_load,hu]
theorem List.oG{α:Type}(cs new:List α)(off i:Nat)(h:off+new.length<=cs.length) :
  (cs.take off ++ (new ++ cs.drop (off+new.length)))[i]?=if off<=i/\i<off+new.length then new[i-off]? else cs[i]?:=by
 by_cases h1:i<off
 ·rw[bOM (by simp;omega),bNG h1,aX]
 ·rw[bON (by simp;omega)];have e:(cs.take off).length=off:=by simp;omega
  rw[e]
  by_cases h2:i<off+new.length
  ·rw[bOM (by omega),aT]
  ·rw[bON (by omega),aX,bNN];congr 1;omega
theorem Pq{X:Nat->Prop}{w:World}{cs new:List S}{arr:Array Value}{Zh:List Value}(h:vJ X w (.cells cs) arr)(hn:gI X w new Zh){off:Nat}(hle:off+new.length<=cs.length) :
  vJ X w (.cells (setAt cs off new)) (arr.toList.take off ++ (Zh ++ arr.toList.drop (off+Zh.length))).toArray:=by
 have h1:=h.1;have h2:off+Zh.length<=arr.toList.length:=by rw[<-hn.1];simp;omega
 refine⟨by simp[setAt];have:=hn.1;omega,fun i s hs=>?_⟩;unfold setAt at hs;rw[List.oG _ _ _ _ hle]at hs;have e:(arr.toList.take off ++ (Zh ++ arr.toList.drop (off+Zh.length))).toArray[i]?=(arr.toList.take off ++ (Zh ++ arr.toList.drop (off+Zh.length)))[i]?:=by simp
 rw[e,List.oG _ _ _ _ h2,<-hn.1];split at hs
 ·rename_i hi;rw[if_pos hi];have iN:=aR hs;rw[hn.1]at iN;obtain⟨u,hu⟩:=aY iN;exact⟨u,hu,hn.2 _ s u hs hu⟩
 ·rename_i hi;rw[if_neg hi];obtain⟨u,hu,hr⟩:=h.2 i s hs;exact⟨u,by simpa using hu,hr⟩
theorem Tf{X:Nat->Prop}{w:World}{cs new:List S}{vs Zh:List Value}(h:gI X w cs vs)(hn:gI X w new Zh){off:Nat}(hle:off+new.length<=cs.length) :
  gI X w (setAt cs off new) (vs.take off ++ (Zh ++ vs.drop (off+Zh.length))):=by
 have h1:=h.1;have h2:=hn.1;refine⟨by unfold setAt;simp;omega,fun i s u hs hu=>?_⟩;unfold setAt at hs;rw[List.oG cs new off i hle]at hs;rw[List.oG vs Zh off i (by omega)]at hu
 by_cases hi:off<=i/\i<off+new.length
 ·rw[if_pos hi]at hs;rw[aT]at hu;exact hn.2 _ s u hs hu
 ·rw[if_neg hi]at hs;rw[aX]at hu;exact h.2 _ s u hs hu
end AI
namespace AI
open Go Go.RowKit
def mB(al:Nat->Prop)(id:Nat):Nat->Prop:=fun i=>al i\/(id<=i/\i<id+8)
section
variable {P:Program} {E:Env} {X:Nat->Prop} {w0:Old} {ρ:Nat->Nat} {al:Nat->Prop} {fr:Nat->A} {hp:Nat->Option iM} {a:Act} {w:World} {o:Oper} {id:Nat} {x:A} {u:oC}
def iE(P:Program)(E:Env)(X:Nat->Prop)(w0:Old)(al:Nat->Prop)(fr:Nat->A)(hp:Nat->Option iM)(a:Act)(w:World)(o:Oper)(id:Nat)(x:A)(u:oC):Prop :=
 ∃ρ' v w',((execOp a.eval o).run P w=.ok (.value v) w'\/((execOp a.eval o).run P w=.ok .skip w'/\v=undef))/\gX E X w0 ρ' (mB al id) (zE o x fr) (applyUps u hp) (a.put o.dst v) w'
theorem gX.more(h:gX E X w0 ρ al fr hp a w)(id:Nat):gX E X w0 ρ (mB al id) fr hp a w :=
 { fr:=h.fr,sz:=h.sz,nod:=h.nod,blk:=h.blk,inj:=h.inj,alh:=fun i b hb=>.inl (h.alh i b hb),alr:=fun t i hi=>.inl (h.alr t i hi),below:=h.below,x0:=h.x0,glob:=h.glob,mg:=h.mg,al0:=fun i hi=>.inl (h.al0 i hi),uS:=h.uS }
theorem bW(h:gX E X w0 ρ al fr hp a w)(hd:hI E.nt o=true){v:Value}(fH:(execOp a.eval o).run P w=.ok (.value v) w)(hx:vK ρ hp (XO X ρ hp) w x v)(aTL:∀i∈refs x,al i) :
  iE P E X w0 al fr hp a w o id x [] :=
 ⟨ρ,v,w,.inl fH,(h.more id).pure hd hx (fun i hi=>.inl (aTL i hi))⟩
theorem kT(v:Value):refs (yN v)=[]:=rfl
theorem Rg(h:gX E X w0 ρ al fr hp a w)(hd:hI E.nt o=true){y:Operand}(ho:o.op=.move y\/o.op=.assign y)(he:oZ E id o (evA E fr) hp=some (x,u)):iE P E X w0 al fr hp a w o id x u:=by
 have h1:=h.ev y;rcases ho with ho |ho
 all_goals
  unfold oZ effK at he;rw[ho]at he;cases he;exact bW h hd (v:=a.eval y) (by unfold execOp;rw[ho];rfl) h1.1 h1.2
theorem aFV(h:gX E X w0 ρ al fr hp a w)(hd:hI E.nt o=true){c y z:Operand}(ho:o.op=.pick c y z)(he:oZ E id o (evA E fr) hp=some (x,u)):iE P E X w0 al fr hp a w o id x u:=by
 have hc:=(h.ev c).1;have hy:=h.ev y;have hz:=h.ev z;have fH:∀t,a.eval c=.bool t->(execOp a.eval o).run P w=.ok (.value (if t then a.eval y else a.eval z)) w:=by
  intro t ht;unfold execOp;rw[ho];simp[ht,asBool]
 unfold oZ effK at he;rw[ho]at he;simp only at he;split at he
 ·rename_i t bBK;rw[bBK]at hc;have aPI:a.eval c=.bool t:=hc.1;split at he
  ·rename_i p q zR Mz;cases he;rw[zR]at hy;rw[Mz]at hz;have e1:a.eval y=.bool p:=hy.1.1;have e2:a.eval z=.bool q:=hz.1.1;refine bW h hd (fH t aPI) ?_ (by simp[kT]);rw[e1,e2];cases t <;> exact⟨rfl,rfl⟩
  ·cases t <;> cases he
   ·exact bW h hd (fH false aPI) (by simpa using hz.1) hz.2
   ·exact bW h hd (fH true aPI) (by simpa using hy.1) hy.2
 ·cases he
theorem oM(id:Nat):mB al id id:=.inr ⟨bNB _,by omega⟩
theorem Gj(e:TypeId)(v:Value):(newVar e v).run P w=.ok ⟨w.heap.size,0,none⟩ (w.alloc (.cells v.cells e)):=rfl
theorem aAN(h:gX E X w0 ρ al fr hp a w)(hd:hI E.nt o=true)(hT:mJ P E.T)(tZ:∀j,j<8->¬al (id+j)){e:TypeId}(ho:o.op=.alloc e)(he:oZ E id o (evA E fr) hp=some (x,u)):iE P E X w0 al fr hp a w o id x u:=by
 unfold oZ effK at he;rw[ho]at he;simp only at he;split at he
 ·rename_i ti uM;cases he;have ht:=hT e ti uM;obtain⟨z,hz,Jn⟩:=ht.aDA (w:=w);have En:vJ (XO X ρ hp) w (.cells (ti.zero.map (wideS E.wide))) z.cells:=by
   refine gI.cells ?_;rw[Jn];exact aBQ E.wide ht.zo
  have h1:=h.alloc (id:=id) (al':=mB al id) (tZ 0 (by omega)) (fun _ h=>.inl h) (oM id) e _ _ En;refine⟨_,.pointer (some ⟨w.heap.size,0,none⟩),_,.inl ?_,h1.pure hd (x:=.v (.one (.ptr id 0))) ?_ ?_⟩
  ·unfold execOp;rw[ho];simp only[Instr.alloc,Sem.run_bind,hz,Result.andThen_ok,Sem.run_pure,Gj]
  ·show _=_;rw[bD]
  ·intro i hi;simp only[refs,refsV,refsL,bNS]at hi;subst hi;exact oM i
 ·cases he
theorem aKR(h:gX E X w0 ρ al fr hp a w)(hd:hI E.nt o=true)(tZ:∀j,j<8->¬al (id+j)){e:TypeId}{y:Operand}(ho:o.op=.box e y)(he:oZ E id o (evA E fr) hp=some (x,u)):iE P E X w0 al fr hp a w o id x u:=by
 unfold oZ effK at he;rw[ho]at he;simp only at he;split at he
 ·rename_i ti cs u1 uM Qw;split at he <;> cases he;obtain⟨hu,En⟩:=tK h (h.ev y).1 Qw;have h0:=h.cons hu;have h1:=h0.alloc (id:=id) (al':=mB al id) (tZ 0 (by omega)) (fun _ h=>.inl h) (oM id) e (.cells cs) _ En.cells;unfold iE;rw[jE];refine⟨_,.pointer (some ⟨w.heap.size,0,none⟩),_,.inl ?_,h1.pure hd (x:=.v (.one (.ptr id 0))) ?_ ?_⟩
  ·unfold execOp;rw[ho];simp only[Instr.box,Sem.run_bind,Result.andThen_ok,Sem.run_pure,Gj]
  ·show _=_;rw[bD]
  ·intro i hi;simp only[refs,refsV,refsL,bNS]at hi;subst hi;exact oM i
 ·cases he
theorem aFW(h:gX E X w0 ρ al fr hp a w)(hd:hI E.nt o=true)(hT:mJ P E.T){t:TypeId}{y:Operand}(ho:o.op=.load t y)(he:oZ E id o (evA E fr) hp=some (x,u)):iE P E X w0 al fr hp a w o id x u:=by
 have hy:=(h.ev y).1;have fH:∀ad v,a.eval y=.pointer (some ad)->(loadVar t ad).run P w=.ok v w->(execOp a.eval o).run P w=.ok (.value v) w:=by
  intro ad v h1 h2;unfold execOp;rw[ho];simp only[h1,Instr.loadAt,Instr.sureAddr,Sem.run_bind,Sem.run_pure,Result.andThen_ok,h2]
 unfold oZ effK at he;rw[ho]at he;simp only at he;split at he
 ·rename_i ti uM;have ht:=hT t ti uM;split at he
  ·rename_i i off gV;rw[gV]at hy;have hy:a.eval y=.pointer (some ⟨ρ i,off,none⟩):=hy;split at he
   ·rename_i e cs hb;obtain⟨_,arr,hg,hc⟩:=h.blk i _ hb;split at he <;> cases he;rename_i v hv;obtain⟨v',h1,h2,h3⟩:=Mt (P:=P) ht (b:=ρ i) (off:=0) (cs:=cs) (fun j s hs=>by
     obtain⟨u,hu,hr⟩:=hc.2 j s hs;exact⟨u,by rw[cell_of_row w (ρ i) _ arr e (0,0) hg];simpa using hu,hr⟩) hv (ρ:=ρ) (hp':=hp)
    rw[bND]at h1;exact bW h hd (fH _ _ hy h1) h2 (by simp[refs,h3])
   ·cases he
  ·rename_i i j gV;rw[gV]at hy;obtain⟨hy,iN⟩:=hy;split at he
   ·rename_i e k ns hb Uk;cases he;have hj:=iN _ k ns hb rfl;have hc:=h.vD hb (bNR hj);refine bW h hd (v:=.int k (ns.getD j 0)) (fH _ _ hy ?_) ⟨rfl,rfl⟩ (by simp[kT]);unfold loadVar;rw[Sem.run_bind,ht.Km,Result.andThen_ok,if_neg (by simp[Uk]),run_load,hc];simp[bOV,hj]
   ·cases he
  ·rename_i cs gV;rw[gV]at hy;obtain⟨b,off,hy,hc⟩:=hy;split at he <;> cases he;rename_i v hv;obtain⟨v',h1,h2,h3⟩:=Mt (P:=P) ht (b:=b) (off:=off) (cs:=cs) (fun j s hs=>by
    obtain⟨_,_,u,hu,hr⟩:=hc j s hs;exact⟨u,hu,hr⟩) hv (ρ:=ρ) (hp':=hp)
   rw[bOC]at h1;exact bW h hd (fH _ _ hy h1) h2 (by simp[refs,h3])
  ·cases he
 ·cases he
theorem jD{g:Nat}{arr:Array Value}{e:TypeId}{f:Nat×Nat}(h:w.heap[g]?=some (.cells arr e f)):jR w g=arr.size:=by unfold jR;rw[h]
theorem aAH(h:gX E X w0 ρ al fr hp a w)(hd:hI E.nt o=true)(hT:mJ P E.T){t:TypeId}{y z:Operand}(ho:o.op=.store t y z)(he:oZ E id o (evA E fr) hp=some (x,u)):iE P E X w0 al fr hp a w o id x u:=by
 have hy:=(h.ev y).1;have hz:=(h.ev z).1;have fH:∀ad w',a.eval y=.pointer (some ad)->(storeVar t ad (a.eval z)).run P w=.ok () w'->(execOp a.eval o).run P w=.ok .skip w':=by
  intro ad w' h1 h2;unfold execOp;rw[ho];simp only[h1,Instr.storeAt,Instr.sureAddr,Sem.run_bind,Sem.run_pure,Result.andThen_ok,h2]
 unfold oZ effK at he;rw[ho]at he;simp only at he;split at he
 ·rename_i ti uM;have ht:=hT t ti uM;split at he
  ·rename_i i off gV;rw[gV]at hy;have hy:a.eval y=.pointer (some ⟨ρ i,off,none⟩):=hy;split at he
   ·rename_i e cs new u1 hb bKZ;split at he <;> cases he;rename_i Hi;obtain⟨Dz,bAR,bIX⟩:=Hi;obtain⟨hu,En⟩:=tK h hz bKZ;have h0:=h.cons hu;have hb0:applyUps u1 hp i=some ⟨e,.cells cs⟩:=by
     have:∀(u:oC) (hp:Nat->Option iM),(u.all fun p=>p.1 !=i)=true->applyUps u hp i=hp i:=by
      intro u
      induction u with
      |nil=>intros;rfl
      |cons p u ih =>
       intro hp xB;obtain⟨j,c⟩:=p;simp only[List.all_cons,bNH,bne_iff_ne]at xB;rw[applyUps,ih _ xB.2,eK _ _ (fun e=>xB.1 e.symm)]
     rw[this u1 hp bIX];exact hb
    obtain⟨_,arr,hg,hc⟩:=h0.blk i _ hb0;have pY:cs.length<=arr.size:=hc.1;have bES:(a.eval z).cells.size=new.length:=by have:=En.1;simpa using this.symm
    have Na:∀v∈(a.eval z).cells.toList,v.oneCell'=true:=by
     intro v hv;obtain⟨k,hk⟩:=bNZ hv;obtain⟨s,hs⟩:=aY (l:=new) (i:=k) (by rw[En.1];exact aR hk);exact(En.2 k s v hs hk).one
    have Zr:=run_storeCells_at P (ρ i) off e (a.eval z).cells.toList 0 arr w hg (by simp;omega) Na;simp only[bOC]at Zr;have h1:=h0.setRow hb0 (.cells (setAt cs off new)) (arr.toList.take off ++ ((a.eval z).cells.toList ++ arr.toList.drop (off+(a.eval z).cells.toList.length))).toArray
     ⟨fun k ns e=>(by cases e),fun Hu e=>by cases e;exact⟨cs,rfl,by simp[setAt];omega⟩⟩ (by rw[jD hg];simp;omega) (Pq hc En bAR)
    unfold iE;rw[jE];refine⟨ρ,undef,_,.inr ⟨fH _ _ hy ?_,rfl⟩,(h1.more id).pure hd (x:=.any) trivial (by simp[refs])⟩;unfold storeVar;rw[Sem.run_bind,ht.run_sizeOf,Result.andThen_ok,if_neg (by rw[bES,Dz];simp),Zr];simp[bOW]
   ·cases he
  ·rename_i i j gV;rw[gV]at hy;obtain⟨hy,iN⟩:=hy;split at he
   ·rename_i e k ns k' n hb bKT;split at he <;> cases he;rename_i hk;obtain⟨rfl,Sr⟩:=hk;have hj:=iN _ k ns hb rfl;rw[bKT]at hz;have hz:a.eval z=.int k n:=hz.1;obtain⟨_,arr,hg,hc⟩:=h.blk i _ hb;have bFK:j<arr.size:=bOB hj hc.1;have Zr:=run_storeCells_at P (ρ i) j e [.int k n] 0 arr w hg (by simp;omega) (by simp[Value.oneCell']);simp only[bOC]at Zr;have bAC:(arr.toList.take j ++ [Value.int k n] ++ arr.toList.drop (j+[Value.int k n].length)).toArray=arr.setIfInBounds j (.int k n):=by
     apply Array.ext';simp only[Array.toList_setIfInBounds,List.length_cons,List.length_nil];rw[List.set_eq_take_append_cons_drop,if_pos (by simpa using bFK)];simp
    rw[bAC]at Zr;have h1:=h.setRow hb (.ints k (ns.set j n)) (arr.setIfInBounds j (.int k n)) ⟨fun k1 Sn e=>(by cases e;exact⟨k,ns,rfl,by simp⟩),fun Hu e=>(by cases e)⟩ (by rw[jD hg];simp) (by
     refine⟨by simpa using hc.1,fun l m hl=>?_⟩;rw[List.getElem?_set]at hl;rw[Array.getElem?_setIfInBounds];split at hl
     ·rename_i aEM;subst aEM;rw[if_pos rfl,if_pos bFK];first | (cases hl;rfl) | (split at hl <;> cases hl;rfl)
     ·rename_i aEM;rw[if_neg aEM];exact hc.2 l m hl)
    refine⟨ρ,undef,_,.inr ⟨fH _ _ hy ?_,rfl⟩,(h1.more id).pure hd (x:=.any) trivial (by simp[refs])⟩;unfold storeVar;rw[Sem.run_bind,ht.run_sizeOf,Result.andThen_ok,hz,if_neg (by simp[Value.cells,Sr])];exact Zr
   ·cases he
  ·cases he
 ·cases he
theorem Bb{u:oC}(hu:Cons u)(hp:Nat->Option iM)(i:Nat):applyUps u hp i=if i∈u.map (·.1)then none else hp i:=by
 induction u generalizing hp with
 |nil=>rfl
 |cons p u ih =>
  obtain⟨j,c⟩:=p;have hc:c=none:=hu (j,c) (by simp);subst hc;rw[applyUps,ih (fun p hp=>hu p (by simp[hp]))]
  by_cases aRI:i=j
  ·subst aRI;rw[bD];simp
  ·rw[eK _ _ aRI];simp only[bNA,bOH,aRI,false_or]
theorem gI.Lh{cs:List S}{vs:List Value}{u1 u2:oC}(h1:Cons u1)(h2:Cons u2)(hs:∀i,i∈u1.map (·.1)->i∈u2.map (·.1))(h:gI (XO X ρ (applyUps u1 hp)) w cs vs):gI (XO X ρ (applyUps u2 hp)) w cs vs:=by
 refine h.later ⟨bNB _,fun b _ hx=>⟨rfl,fun ho=>hx (ho.imp (fun h=>h) ?_)⟩⟩;rintro ⟨i,bl,hb,hr⟩;refine⟨i,bl,?_,hr⟩;rw[Bb h2]at hb;rw[Bb h1];split at hb
 ·cases hb
 ·rename_i hn;rw[if_neg (fun h=>hn (hs i h))];exact hb
theorem Ra(off:Nat):∀(vs:List Value) (k:Nat) (arr:Array Value),off+k+vs.length<=arr.size ->
  ((vs.zipIdx k).foldl (fun cs p=>cs.setIfInBounds (off+p.2) p.1) arr).toList=arr.toList.take (off+k) ++ vs ++ arr.toList.drop (off+k+vs.length)
 | [],k,arr,_=>by simp
 |v :: vs,k,arr,h=>by
  simp only[List.zipIdx_cons,List.foldl_cons];rw[Ra off vs (k+1) (arr.setIfInBounds (off+k) v) (by simp at h ⊢;omega)];simp only[Array.toList_setIfInBounds];have:=list_seg_step arr.toList (off+k) v vs (by simp at h ⊢;omega);simpa [Nat.add_assoc] using this
theorem kG{R:Type}(hp:Nat->Option iM)(place:Nat->Option (Nat×Nat))(ev:Operand->A)(parts:List (Nat×Operand))(cs:List S)(u:oC)(K:List S->oC->Option R) :
  fillK hp place ev parts cs u K=(fillK hp place ev parts cs u (fun cs u=>some (cs,u))).bind fun r=>K r.1 r.2:=by
 induction parts generalizing cs u with
 |nil=>rfl
 |cons p rest ih =>
  obtain⟨i,y⟩:=p;simp only[fillK];split
  ·split
   ·exact ih _ _
   ·rfl
  ·rfl
theorem vB(h:gX E X w0 ρ al fr hp a w)(place:Nat->Option (Nat×Nat)):∀(parts:List (Nat×Operand)) (cs:List S) (u:oC) (arr:Array Value) (Hu:List S) (u':oC),
  Cons u->gI (XO X ρ (applyUps u hp)) w cs arr.toList->fillK hp place (evA E fr) parts cs u (fun cs u=>some (cs,u))=some (Hu,u') ->
  Cons u'/\∃lY,Instr.fill place arr (parts.map fun p=>(p.1,a.eval p.2))=some lY/\gI (XO X ρ (applyUps u' hp)) w Hu lY.toList/\lY.size=arr.size
 | [],cs,u,arr,Hu,u',hu,hr,he=>by cases he;exact⟨hu,arr,rfl,hr,rfl⟩
 | (i,y) :: rest,cs,u,arr,Hu,u',hu,hr,he=>by
  simp only[fillK]at he;split at he
  ·rename_i off size new u1 Ss bLA;split at he
   ·rename_i Hi;obtain⟨aEE,hn⟩:=tK h (h.ev y).1 bLA;have pY:(a.eval y).cells.size=size:=by have:=hn.1;simp at this;omega
    have hle:off+(a.eval y).cells.size<=arr.size:=by have:=hr.1;simp at this;omega
    have bBJ:Cons (u ++ u1):=fun p hp=>(List.mem_append.1 hp).elim (hu p) (aEE p)
    have bJG:gI (XO X ρ (applyUps (u ++ u1) hp)) w cs arr.toList:=hr.Lh hu bBJ (fun i hi=>by simp only[bOA,bOD];exact .inl hi);have Zt:gI (XO X ρ (applyUps (u ++ u1) hp)) w new (a.eval y).cells.toList:=hn.Lh aEE bBJ (fun i hi=>by simp only[bOA,bOD];exact .inr hi);have aOQ:=Tf bJG Zt Hi.2;have aVE:=Ra off (a.eval y).cells.toList 0 arr (by simpa using hle);obtain⟨Vb,aNA⟩:∃Vb,Vb=(a.eval y).cells.zipIdx.foldl (fun cs p=>cs.setIfInBounds (off+p.2) p.1) arr:=⟨_,rfl⟩;have Dz:Vb.toList=arr.toList.take off ++ ((a.eval y).cells.toList ++ arr.toList.drop (off+(a.eval y).cells.toList.length)):=by
     rw[aNA,<-Array.foldl_toList,Array.toList_zipIdx,aVE];simp[bOW]
    rw[<-Dz]at aOQ;have aZV:Vb.size=arr.size:=by
     have:Vb.toList.length=arr.toList.length:=by rw[Dz];simp;omega
     simpa using this
    obtain⟨bBI,lY,hf,En,hs⟩:=vB h place rest (setAt cs off new) (u ++ u1) Vb Hu u' bBJ aOQ he;refine⟨bBI,lY,?_,En,hs.trans aZV⟩;rw[bNA,Instr.fill,Ss];simp only;rw[if_neg (by simp;omega)];have e:(Array.foldl (fun cs (x:Value×Nat)=>match x with | (c,j)=>cs.setIfInBounds (off+j) c) arr (a.eval y).cells.zipIdx)=Vb:=aNA.symm;rw[e];exact hf
   ·cases he
  ·cases he
theorem wV{α β:Type}{f:α->Option β}:∀{l:List α} {r:List β},l.mapM f=some r->r.length=l.length
 | [],r,h=>by simp at h;subst h;rfl
 |x :: l,r,h=>by
  rw[bOI]at h;simp only[bPG,bPH,bPI,Option.some.injEq]at h;obtain⟨y,_,ys,bIL,rfl⟩:=h;simp[wV bIL]
theorem aAL(h:gX E X w0 ρ al fr hp a w)(hd:hI E.nt o=true)(hT:mJ P E.T){t:TypeId}{parts:Array (Nat×Operand)}(ho:o.op=.build t parts)(he:oZ E id o (evA E fr) hp=some (x,u)):iE P E X w0 al fr hp a w o id x u:=by
 have fin:∀(lY:Array Value) cs u,(execOp a.eval o).run P w=.ok (.value (.agg lY)) w->Cons u->gI (XO X ρ (applyUps u hp)) w cs lY.toList->iE P E X w0 al fr hp a w o id (.v (.agg cs)) u:=by
  intro lY cs u fH hu En;exact⟨ρ,.agg lY,w,.inl fH,((h.cons hu).more id).pure hd ⟨lY,rfl,En⟩ (by simp[refs,refsV])⟩
 have hex:∀r,(Instr.build t (parts.map fun p=>(p.1,a.eval p.2))).run P w=.ok r w->(execOp a.eval o).run P w=.ok (.value r) w:=by
  intro r hr;unfold execOp;rw[ho];simp only[Sem.run_bind];rw[hr];rfl
 unfold oZ effK at he;rw[ho]at he;simp only at he;split at he
 ·rename_i size bytes zero fs uM;have ht:=hT t _ uM;obtain⟨i,hi,_,_,z,hz,Jn⟩:=ht.i;obtain⟨d,sM,fields,rfl,aRL,hf⟩:=ht.d;rw[kG]at he;obtain⟨⟨cs,u2⟩,Qu,he⟩:=Option.bind_eq_some_iff.1 he;cases he;obtain⟨hu,lY,h1,h2,h3⟩:=vB h _ parts.toList _ [] z.cells cs u2 (fun p hp=>by cases hp) (by rw[Jn];exact Ph ht.zo) Qu;refine fin lY cs u2 (hex _ ?_) hu h2;obtain⟨tG,Ss,bJM⟩:∃tG:List (Nat×Nat),fields.toList.mapM (fun f=>(P.info? f.type).map fun i=>(f.offset,i.size))=some tG/\∀(k:Nat) (p:Nat×Nat),tG[k]?=some p->(fs[k]?).map (fun(f:Nat×Nat×Bool)=>(f.1,f.2.1))=some p:=by
   have:∀(l:List Field) (s:Nat),(∀(k:Nat) (f:Field),l[k]?=some f->∃fi fd,P.info? f.type=some fi/\P.underlying f.type=some fd/\fs[s+k]?=some (f.offset,fi.size,pW fd)) ->
     ∃tG:List (Nat×Nat),l.mapM (fun f=>(P.info? f.type).map fun i=>(f.offset,i.size))=some tG/\∀(k:Nat) (p:Nat×Nat),tG[k]?=some p->(fs[s+k]?).map (fun(f:Nat×Nat×Bool)=>(f.1,f.2.1))=some p:=by
    intro l
    induction l with
    |nil=>intro s _;exact⟨[],rfl,fun k p hk=>by simp at hk⟩
    |cons f l ih =>
     intro s hl;obtain⟨fi,fd,e1,e2,e3⟩:=hl 0 f rfl;obtain⟨pl,p1,p2⟩:=ih (s+1) (fun k g hk=>by have:=hl (k+1) g (by simpa using hk);rwa [show s+(k+1)=s+1+k by omega]at this);refine⟨(f.offset,fi.size) :: pl,by simp[bOI,e1,p1],fun k p hk=>?_⟩
     match k with
     |0=>simp at hk;subst hk;simp at e3;simp[e3]
     |k+1=>simp at hk;have:=p2 k p hk;rwa [show s+1+k=s+(k+1) by omega]at this
   obtain⟨pl,p1,p2⟩:=this fields.toList 0 (fun k f hk=>by rw[bND];exact hf k f (by simpa using hk));exact⟨pl,p1,fun k p hk=>by have:=p2 k p hk;rwa [bND]at this⟩
  refine run_build w t _ lY ?_;unfold Program.built;simp only[hi,sM,hz,Ss,Array.toList_map];have Kx:∀(ps:List (Nat×Value)) (arr:Array Value) r,Instr.fill (fun i=>(fs[i]?).map fun(f:Nat×Nat×Bool)=>(f.1,f.2.1)) arr ps=some r->Instr.fill (tG.toArray[·]?) arr ps=some r:=by
   intro ps
   induction ps with
   |nil=>intro arr r h;exact h
   |cons p ps ih =>
    intro arr r h;obtain⟨i,v⟩:=p;unfold Instr.fill at h ⊢;cases hq:tG[i]? with
    |none =>
     have h1:tG.length=fields.size:=by simpa using (wV Ss)
     have h2:fs[i]?=none:=bOX (by have:=List.getElem?_eq_none_iff.1 hq;omega);simp[h2]at h
    |some q =>
     have:=bJM i q hq;simp only[this]at h;have bJJ:tG.toArray[i]?=some q:=by simp[hq]
     simp only[bJJ];obtain⟨o1,s1⟩:=q;simp only at h ⊢;split at h
     ·cases h
     ·rename_i hc;rw[if_neg hc];exact ih _ _ h
  have e:parts.toList.map (fun p=>(p.1,a.eval p.2))=parts.toList.map (fun x=>(x.fst,a.eval x.snd)):=rfl;rw[e]at h1;exact Kx _ _ _ h1
 ·rename_i size bytes zero len nV g uM;have ht:=hT t _ uM;obtain⟨i,hi,_,_,z,hz,Jn⟩:=ht.i;obtain⟨d,sM,e,ei,ed,rfl,Zw,aMS,_,_⟩:=ht.d;rw[kG]at he;obtain⟨⟨cs,u2⟩,Qu,he⟩:=Option.bind_eq_some_iff.1 he;cases he;obtain⟨hu,lY,h1,h2,h3⟩:=vB h _ parts.toList _ [] z.cells cs u2 (fun p hp=>by cases hp) (by rw[Jn];exact Ph ht.zo) Qu;refine fin lY cs u2 (hex _ ?_) hu h2;refine run_build w t _ lY ?_;unfold Program.built;simp only[hi,sM,hz,Zw,Array.toList_map];subst aMS;exact h1
 ·cases he
end
end AI
namespace AI
open Go Go.RowKit
section
variable {P:Program} {E:Env} {X:Nat->Prop} {w0:Old} {ρ:Nat->Nat} {al:Nat->Prop} {fr:Nat->A} {hp:Nat->Option iM} {a:Act} {w:World} {o:Oper} {id:Nat} {x:A} {u:oC}
theorem Ej(w:World)(t e:TypeId)(len:Nat)(parts:Array (Nat×Value))(cells:Array Value)(ie:TypeInfo)(z:Value)
  (hu:P.underlying t=some (.slice e)) (bFL:P.info? e=some ie) (hz:ie.zero=some z) (aOR:¬len*ie.size>2^24)
  (h:Instr.fill (fun i=>some (i*ie.size,ie.size)) ((Array.range (len*ie.size)).map (z.cells[·%z.cells.size]!)) parts.toList=some cells) :
  (Instr.buildSlice t len parts).run P w=.ok (.slice (some ⟨w.heap.size,0,none⟩) len len) (w.alloc (.cells cells e)):=by
 by_cases oO:len*ie.size=0
 ·rw[oO]at h;have hr:∀f:Nat->Value,(Array.range 0).map f=#[]:=fun f=>by rw[show Array.range 0=(#[]:Array Nat)from by simp];simp
  rw[hr]at h;simp[Instr.buildSlice,run_underlying hu,sizeOf,typeInfo,bFL,oO,hr,h,newRow]
 ·simp[Instr.buildSlice,run_underlying hu,sizeOf,typeInfo,zeroValue,bFL,hz,aOR,oO,h,newRow]
theorem Bc{k:IntKind}:∀{cs:List S} {ns:List Int},allInts k cs=some ns->cs=ns.map fun n=>.sc (.int k n)
 | [],ns,h=>by cases h;rfl
 | .sc (.int k' n) :: r,ns,h=>by
  simp only[allInts]at h;split at h
  ·rename_i hk;subst hk;obtain⟨ms,aJY,rfl⟩:=Option.map_eq_some_iff.1 h;rw[Bc aJY];rfl
  ·cases h
 | .ints _ _ :: _,_,h=>by cases h
 | .bot :: _,_,h=>by cases h
 | .sc (.bool _) :: _,_,h=>by cases h
 | .sc (.float _ _) :: _,_,h=>by cases h
 | .sc (.complex _ _ _) :: _,_,h=>by cases h
 | .sc (.string _) :: _,_,h=>by cases h
 | .sc (.pointer _) :: _,_,h=>by cases h
 | .sc (.slice _ _ _) :: _,_,h=>by cases h
 | .sc (.map _) :: _,_,h=>by cases h
 | .sc (.chan _) :: _,_,h=>by cases h
 | .sc (.func _ _ _) :: _,_,h=>by cases h
 | .sc .nilFunc :: _,_,h=>by cases h
 | .sc (.iface _ _) :: _,_,h=>by cases h
 | .sc .nilIface :: _,_,h=>by cases h
 | .sc (.agg _) :: _,_,h=>by cases h
 | .sc (.tuple _) :: _,_,h=>by cases h
theorem Jm{Y:Nat->Prop}{k:IntKind}{ns:List Int}{arr:Array Value}(h:gI Y w (ns.map fun n=>.sc (.int k n)) arr.toList):vJ Y w (.ints k ns) arr/\arr.size=ns.length:=by
 have hl:ns.length=arr.size:=by have:=h.1;simpa using this
 refine⟨⟨by omega,fun i n hn=>?_⟩,hl.symm⟩;obtain⟨v,hv⟩:=aY (l:=arr.toList) (i:=i) (by have:=aR hn;simp;omega);have:=(h.2 i (.sc (.int k n)) v (by simp[hn]) hv).1;subst this;simpa using hv
theorem Gz{n:Nat}(h:n<=16777216):n<=maxLen:=by unfold maxLen;omega
theorem Hr(h:gX E X w0 ρ al fr hp a w)(hd:hI E.nt o=true)(hT:mJ P E.T)(tZ:∀j,j<8->¬al (id+j)){t:TypeId}{len:Nat}{parts:Array (Nat×Operand)}(ho:o.op=.buildSlice t len parts)(he:oZ E id o (evA E fr) hp=some (x,u)):iE P E X w0 al fr hp a w o id x u:=by
 unfold oZ effK at he;rw[ho]at he;simp only at he;split at he
 ·rename_i s0 b0 z0 e uM;have ht:=hT t _ uM;obtain⟨d,sM,zS⟩:=ht.d;have zS:d=.slice e:=zS;subst zS;split at he
  ·rename_i size bytes zero kind Jb;have Hd:=hT e _ Jb;obtain⟨ie,hi,pY,_,z,hz,Jn⟩:=Hd.i;have pY:ie.size=size:=pY;have Jn:z.cells.toList=zero:=Jn;have bEK:zero.length=size:=Hd.zl;split at he
   ·rename_i Hi;obtain⟨Sr,Jc⟩:=Hi;rw[kG]at he;obtain⟨⟨cs,u2⟩,Qu,he⟩:=Option.bind_eq_some_iff.1 he;simp only at he;have aUX:gI (XO X ρ (applyUps [] hp)) w ((bOL (len*size)).map fun i=>S.sc (zero.getD (i%size) undef)) ((Array.range (len*ie.size)).map (z.cells[·%z.cells.size]!)).toList:=by
     refine⟨by simp[pY],fun i s v hs hv=>?_⟩;have hi:=aR hs;simp at hi;have aMJ:z.cells.size=size:=by rw[<-bEK,<-Jn];simp
     have hm:i%size<zero.length:=by rw[bEK];exact Nat.mod_lt _ Jc
     simp[hi]at hs;subst hs;have aUO:i%size<z.cells.size:=by rw[aMJ];exact Nat.mod_lt _ Jc
     simp[pY,hi,aMJ]at hv;have e1:z.cells[i%size]! = zero[i%size]:=by
      rw[getElem!_pos z.cells (i%size) aUO];simp[<-Jn]
     rw[e1]at hv;subst hv;have e2:zero[i%size]?.getD undef=zero[i%size]:=by simp[hm]
     rw[e2];exact⟨rfl,Hd.zo _ (List.getElem_mem hm)⟩
    obtain⟨hu,lY,h1,h2,h3⟩:=vB h _ parts.toList _ [] _ cs u2 (fun p hp=>by cases hp) aUX Qu;have h3:lY.size=len*size:=by rw[h3];simp[pY]
    have fH:=Ej (P:=P) w t e len (parts.map fun p=>(p.1,a.eval p.2)) lY ie z sM hi hz (by rw[pY];omega) (by rw[Array.toList_map];subst pY;exact h1);have hex:(execOp a.eval o).run P w=.ok (.value (.slice (some ⟨w.heap.size,0,none⟩) len len)) (w.alloc (.cells lY e)):=by
     unfold execOp;rw[ho];simp only[Sem.run_bind];rw[fH];rfl
    have h0:=h.cons hu;have fin:∀c,vJ (XO X ρ (applyUps u2 hp)) w c lY->(∀k ns,c=.ints k ns->len=ns.length/\lY.size=len)->(∀Hu,c=.cells Hu->Hu.length=len*size) ->
      iE P E X w0 al fr hp a w o id (.v (.one (.buf id len))) (u2 ++ [(id,some ⟨e,c⟩)]):=by
     intro c hc hints iF;have h1:=h0.alloc (id:=id) (al':=mB al id) (tZ 0 (by omega)) (fun _ h=>.inl h) (oM id) e c lY hc;unfold iE;rw[jE];refine⟨_,_,_,.inl hex,h1.pure hd (x:=.v (.one (.buf id len))) ?_ ?_⟩
     ·refine⟨len,by rw[bD],bNB _,fun blk k ns hb hk=>?_,fun blk Hu hb hk=>?_⟩
      rotate_left
      ·rw[bD]at hb;cases hb;refine⟨size,iF Hu hk,?_,Gz ?_⟩
       ·rw[bD,jD (uB w _)];omega
       ·have:len<=len*size:=bPK _ Jc;omega
      rw[bD]at hb;cases hb;obtain⟨h5,h6⟩:=hints k ns hk;refine⟨h5,Gz ?_,?_⟩
      ·have:len<=len*size:=bPK _ Jc;omega
      ·rw[bD,jD (uB w _)];omega
     ·intro i hi;simp only[refs,refsV,refsL,bNS]at hi;subst hi;exact oM i
    split at he
    ·split at he <;> cases he;rename_i k ns xB;have Qw:=Bc xB;rw[Qw]at h2;obtain⟨h5,h6⟩:=Jm h2;refine fin _ h5 (fun k1 Sn e1=>?_) (fun Hu e1=>by cases e1);cases e1;simp at h3;exact⟨by omega,h3⟩
    ·cases he;exact fin _ h2.cells (fun k ns e1=>by cases e1) (fun Hu e1=>by cases e1;have:=h2.1;simp at this;omega)
   ·cases he
  ·cases he
 ·cases he
theorem aAG{X:Nat->Prop}{w:World}(hT:mJ P E.T){t:TypeId}{cs ds:List S}{q:Bool}(he:eqAgg (E.T t) cs ds=some q){xs ys:Array Value}(hx:gI X w cs xs.toList)(hy:gI X w ds ys.toList) :
  (∀y z,(do eqGuard .eql t y z (.agg xs) (.agg ys);binOp .eql t (.agg xs) (.agg ys):Sem Value).run P w=.ok (.bool q) w)/\(∀y z,(do eqGuard .neq t y z (.agg xs) (.agg ys);binOp .neq t (.agg xs) (.agg ys):Sem Value).run P w=.ok (.bool (!q)) w):=by
 unfold eqAgg at he;split at he
 ·rename_i ti uM;split at he
  ·rename_i ks bJY;have bGS:∀{cs:List S} {xs:Array Value},gI X w cs xs.toList->∀(j:Nat) (c:Value),cs[j]?=some (.sc c)->xs[j]?=some c:=by
    intro cs xs h j c hc;have iN:j<xs.toList.length:=by rw[<-h.1];exact(List.getElem?_eq_some_iff.1 hc).1
    have hv:xs.toList[j]?=some xs.toList[j]:=bNR iN;have:=(h.2 j _ _ hc hv).1;rw[this]at hv;simpa using hv
   exact aPU ((hT t ti uM).eq ks bJY) he (bGS hx) (bGS hy)
  ·cases he
 ·cases he
theorem aAM(h:gX E X w0 ρ al fr hp a w)(hd:hI E.nt o=true)(hT:mJ P E.T){op:BinOp}{t t':TypeId}{y z:Operand}(ho:o.op=.binOp op t y z t')(he:oZ E id o (evA E fr) hp=some (x,u)):iE P E X w0 al fr hp a w o id x u:=by
 have hy:=(h.ev y).1;have hz:=(h.ev z).1;unfold oZ effK at he;rw[ho]at he;simp only at he;split at he
 ·rename_i p q zR Mz;rw[zR]at hy;rw[Mz]at hz;have e1:a.eval y=p:=hy.1;have e2:a.eval z=q:=hz.1;cases hb:boolT (E.T t) p with
  |false=>rw[hb]at he;cases he
  |true =>
   rw[hb]at he;simp only[cond_true]at he;rw[Dd]at he;obtain⟨r,hr,he⟩:=Option.bind_eq_some_iff.1 he;cases he;obtain⟨h1,h2⟩:=aAT (P:=P) op t y z p q r w (fun b bJN=>by
    subst bJN;unfold boolT at hb;simp only at hb;split at hb
    ·rename_i s0 b0 z0 uM;obtain⟨d,aXR,aRN⟩:=(hT t _ uM).d;have aRN:d=.bool:=aRN;subst aRN;exact aXR
    ·cases hb) hr
   refine bW h hd (v:=r) ?_ ⟨rfl,h2⟩ (by simp[kT]);unfold execOp;rw[ho];simp only[e1,e2];rw[Sem.run_bind,h1];rfl
 ·rename_i cs ds zR Mz;rw[zR]at hy;rw[Mz]at hz;cases hb:eqAgg (E.T t) cs ds with
  |none=>rw[hb]at he;cases he
  |some b =>
   rw[hb]at he;simp only at he;obtain⟨xs,e1,rx⟩:∃arr,a.eval y=.agg arr/\_:=hy;obtain⟨ys,e2,ry⟩:∃arr,a.eval z=.agg arr/\_:=hz;have fH:=aAG (P:=P) hT hb rx ry;cases op <;> simp only at he <;> cases he
   ·refine bW h hd (v:=.bool b) ?_ ⟨rfl,rfl⟩ (by simp[kT]);unfold execOp;rw[ho];simp only[e1,e2];rw[Sem.run_bind,fH.1];rfl
   ·refine bW h hd (v:=.bool (!b)) ?_ ⟨rfl,rfl⟩ (by simp[kT]);unfold execOp;rw[ho];simp only[e1,e2];rw[Sem.run_bind,fH.2];rfl
 ·cases he
theorem aFU(h:gX E X w0 ρ al fr hp a w)(hd:hI E.nt o=true){op:UnOp}{t:TypeId}{y:Operand}(ho:o.op=.unOp op t y)(he:oZ E id o (evA E fr) hp=some (x,u)):iE P E X w0 al fr hp a w o id x u:=by
 have hy:=(h.ev y).1;unfold oZ effK at he;rw[ho]at he;simp only at he;split at he
 ·rename_i p zR;rw[zR]at hy;have e1:a.eval y=p:=hy.1;rw[Fw]at he;obtain⟨r,hr,he⟩:=Option.bind_eq_some_iff.1 he;cases he;obtain⟨h1,h2⟩:=aBS (P:=P) op p r w hr;refine bW h hd (v:=r) ?_ ⟨rfl,h2⟩ (by simp[kT]);unfold execOp;rw[ho];simp only[e1,Sem.run_bind,h1,Result.andThen_ok,Sem.run_pure]
 ·cases he
theorem Ut{s d:TypeId}{ds dd:TypeDesc}{k:TK}(h1:P.underlying s=some ds)(h2:P.underlying d=some dd)(h3:Is P k dd){p r:Value}(h:convK k p some=some r) :
  (convert s d p).run P w=.ok r w/\r.oneCell'=true:=by
 unfold convert;simp only[Sem.run_bind,run_underlying h1,run_underlying h2,Result.andThen_ok];unfold convK at h;split at h
 ·have h3:dd=.int _:=h3;subst h3;cases h;exact⟨rfl,rfl⟩
 ·have h3:dd=.float _:=h3;subst h3;cases h;exact⟨rfl,rfl⟩
 ·have h3:dd=.int _:=h3;subst h3;obtain⟨n,hn,h⟩:=Option.bind_eq_some_iff.1 h;split at h <;> cases h;rename_i hb;refine⟨?_,rfl⟩;simp[Conv.floatToInt,hn,hb]
 ·have h3:dd=.float _:=h3;subst h3;split at h <;> cases h;rename_i hs;refine⟨?_,rfl⟩;simp[Conv.floatToFloat,hs]
 ·cases h
theorem Ri(h:gX E X w0 ρ al fr hp a w)(hd:hI E.nt o=true)(hT:mJ P E.T){s d:TypeId}{y:Operand}(ho:o.op=.convert s d y)(he:oZ E id o (evA E fr) hp=some (x,u)):iE P E X w0 al fr hp a w o id x u:=by
 have hy:=(h.ev y).1;unfold oZ effK at he;rw[ho]at he;simp only at he;split at he
 ·rename_i t1 ti p hs sM zR;rw[zR]at hy;have e1:a.eval y=p:=hy.1;rw[zI]at he;obtain⟨r,hr,he⟩:=Option.bind_eq_some_iff.1 he;cases he;obtain⟨ds,aRM,_⟩:=(hT s _ hs).d;obtain⟨dd,aMU,hk⟩:=(hT d _ sM).d;obtain⟨h1,h2⟩:=Ut (P:=P) (w:=w) aRM aMU hk hr;refine bW h hd (v:=r) ?_ ⟨rfl,h2⟩ (by simp[kT]);unfold execOp;rw[ho];simp only[e1,Sem.run_bind,h1,Result.andThen_ok,Sem.run_pure]
 ·cases he
theorem Rh(h:gX E X w0 ρ al fr hp a w)(hd:hI E.nt o=true){y:Operand}{i:Nat}(ho:o.op=.extract y i)(he:oZ E id o (evA E fr) hp=some (x,u)):iE P E X w0 al fr hp a w o id x u:=by
 have hy:=h.ev y;unfold oZ effK at he;rw[ho]at he;simp only at he;split at he
 ·rename_i xs bIO;split at he <;> cases he;rename_i v hv;rw[bIO]at hy;obtain⟨⟨arr,ha,hl,hr⟩,pK⟩:=hy;obtain⟨q,hq⟩:∃q,arr[i]?=some q:=by
   have:=aR hv;exact⟨arr[i],Array.getElem?_eq_getElem (by omega)⟩
  refine bW h hd (v:=q) ?_ (hr i v q hv hq) (fun j hj=>pK j (List.mem_flatMap.2 ⟨v,bNK hv,hj⟩));unfold execOp;rw[ho];simp[Instr.extract,ha,hq]
 ·cases he
theorem pJ{y:Operand}{k:IntKind}{n:Int}(h:gX E X w0 ρ al fr hp a w)(he:intArg (evA E fr y)=some (k,n)):a.eval y=.int k n:=by
 have hy:=(h.ev y).1;unfold intArg at he;split at he
 ·rename_i k' n' gV;cases he;rw[gV]at hy;exact hy.1
 ·cases he
theorem Jv(h:gX E X w0 ρ al fr hp a w)(hd:hI E.nt o=true)(hT:mJ P E.T){t:TypeId}{y:Operand}{f:Nat}(ho:o.op=.fieldAddr t y f)(he:oZ E id o (evA E fr) hp=some (x,u)):iE P E X w0 al fr hp a w o id x u:=by
 have hy:=h.ev y;unfold oZ effK at he;rw[ho]at he;simp only at he;split at he
 ·rename_i s0 b0 z0 fs uM;obtain⟨d,sM,fields,rfl,aRL,hf⟩:=(hT t _ uM).d;have fH:∀b off o1 size g,fs[f]?=some (o1,size,g)->0<size->a.eval y=.pointer (some ⟨b,off,none⟩)->(execOp a.eval o).run P w=.ok (.value (.pointer (some ⟨b,off+o1,none⟩))) w:=by
   intro b off o1 size g aBK oO gV;have iN:=aR aBK;obtain⟨fi,fd,e1,e2,e3⟩:=hf f fields[f] (Array.getElem?_eq_getElem (by omega));rw[aBK]at e3;cases e3;unfold execOp;rw[ho];have bAZ:fields[f]?=some fields[f]:=Array.getElem?_eq_getElem (by omega);simp only[gV,Instr.fieldAt,Instr.sureAddr,Sem.run_bind,run_underlying sM,Result.andThen_ok,bAZ,Sem.run_pure,fieldPlace,sizeOf,typeInfo,run_program,e1];rw[aX];simp[jY]
  split at he
  ·rename_i off size g i o1 aBK gV;split at he <;> cases he;rename_i oO;rw[gV]at hy;exact bW h hd (fH _ _ _ _ _ aBK oO hy.1) rfl hy.2
  ·rename_i off size g cs aBK gV;split at he <;> cases he;rename_i oO;rw[gV]at hy;obtain⟨⟨b,aOE,hb,hc⟩,_⟩:=hy;refine bW h hd (fH _ _ _ _ _ aBK oO hb) ⟨b,aOE+off,rfl,fun i s hs=>?_⟩ (by simp[refs,refsV,refsL]);rw[bNN]at hs;have:=hc (off+i) s hs;rwa [show aOE+(off+i)=aOE+off+i by omega]at this
  ·cases he
 ·cases he
theorem Gp{t:TypeId}{fi:TypeInfo}{fd:TypeDesc}(h1:P.info? t=some fi)(h2:P.underlying t=some fd){Y:Nat->Prop}{cs:List S}{arr:Array Value}(hr:gI Y w cs arr.toList){off:Nat}{v:V}
  (he:(bif pW fd then(if off+fi.size<=cs.length then some (V.agg ((cs.drop off).take fi.size))else none)else(cs[off]?).map fun c=>V.one (.s c))=some v) :
  ∃q,(part t arr off).run P w=.ok q w/\Bk ρ hp Y w v q/\refsV v=[]:=by
 have hl:cs.length=arr.size:=by simpa using hr.1
 have Uk:(isAgg t).run P w=.ok (pW fd) w:=by
  unfold isAgg;rw[Sem.run_bind,run_underlying h2];cases fd <;> rfl
 unfold part;rw[Sem.run_bind,Uk,Result.andThen_ok];cases hg:pW fd with
 |true =>
  rw[hg]at he;simp only[cond_true]at he;split at he <;> cases he;rename_i hle;refine⟨_,by rw[if_pos rfl,Sem.run_bind];simp only[sizeOf,typeInfo,Sem.run_bind,run_program,Result.andThen_ok,h1,Sem.run_pure];rfl,⟨_,rfl,?_⟩,rfl⟩;refine⟨by simp;omega,fun i s q hs hq=>?_⟩;have hi:i<fi.size:=by have:=aR hs;simp at this;omega
  rw[bNG hi,bNN]at hs;refine hr.2 (off+i) s q hs ?_;have iN:=aR hs;simp at hq;rw[bNG (by omega),bNN]at hq;exact hq
 |false =>
  rw[hg]at he;simp only[cond_false]at he;obtain⟨c,hc,rfl⟩:=Option.map_eq_some_iff.1 he;have iN:=aR hc;have hq:arr[off]?=some arr[off]:=Array.getElem?_eq_getElem (by omega);refine⟨arr[off],by simp[hq],hr.2 off c _ hc (by simp[<-hq]),rfl⟩
theorem aAK(h:gX E X w0 ρ al fr hp a w)(hd:hI E.nt o=true)(hT:mJ P E.T){t:TypeId}{y:Operand}{f:Nat}(ho:o.op=.field t y f)(he:oZ E id o (evA E fr) hp=some (x,u)):iE P E X w0 al fr hp a w o id x u:=by
 have hy:=(h.ev y).1;unfold oZ effK at he;rw[ho]at he;simp only at he;split at he
 ·rename_i s0 b0 z0 fs uM;obtain⟨d,sM,fields,rfl,aRL,hf⟩:=(hT t _ uM).d;split at he
  ·rename_i off size g cs aBK gV;split at he <;> cases he;rename_i v hv;rw[gV]at hy;obtain⟨arr,ha,hr⟩:=hy;have iN:=aR aBK;obtain⟨fi,fd,e1,e2,e3⟩:=hf f fields[f] (Array.getElem?_eq_getElem (by omega));rw[aBK]at e3;cases e3;obtain⟨q,Mz,bAG,bAF⟩:=Gp (P:=P) (ρ:=ρ) (hp:=hp) e1 e2 hr hv;refine bW h hd (v:=q) ?_ bAG (by simp[refs,bAF]);have bAZ:fields[f]?=some fields[f]:=Array.getElem?_eq_getElem (by omega);unfold execOp;rw[ho];simp only[Instr.field,Sem.run_bind,run_underlying sM,Result.andThen_ok,bAZ,ha,asAgg,Sem.run_pure,Mz]
  ·cases he
 ·cases he
theorem aAJ(h:gX E X w0 ρ al fr hp a w)(hd:hI E.nt o=true)(hT:mJ P E.T){t:TypeId}{y z:Operand}(ho:o.op=.index t y z)(he:oZ E id o (evA E fr) hp=some (x,u)):iE P E X w0 al fr hp a w o id x u:=by
 have hy:=(h.ev y).1;unfold oZ effK at he;rw[ho]at he;simp only at he;split at he
 ·rename_i s0 b0 z0 len nV g cs k n uM gV aUV;have hz:=pJ h aUV;split at he
  ·rename_i iN;rw[aJU cs iN]at he;split at he <;> cases he;rename_i v hv;rw[gV]at hy;obtain⟨arr,ha,hr⟩:=hy;obtain⟨d,sM,e,ei,ed,rfl,Zw,aMS,bFN,bFM⟩:=(hT t _ uM).d;subst aMS;subst bFM;obtain⟨q,Mz,bAG,bAF⟩:=Gp (P:=P) (ρ:=ρ) (hp:=hp) Zw bFN hr hv;refine bW h hd (v:=q) ?_ bAG (by simp[refs,bAF]);unfold execOp;rw[ho];simp only[Instr.index,Sem.run_bind,hz,asIntOf,Sem.run_pure,run_underlying sM,Result.andThen_ok,ha];rw[if_pos iN];simp only[sizeOf,typeInfo,Sem.run_bind,run_program,Result.andThen_ok,Zw,Sem.run_pure,Mz]
  ·cases he
 ·rename_i s0 b0 z0 s k n uM gV aUV;have hz:=pJ h aUV;split at he
  ·rename_i iN;cases he;rw[gV]at hy;obtain⟨ha,_⟩:=hy;obtain⟨d,sM,rfl⟩:=(hT t _ uM).d;refine bW h hd (v:=.int .u8 (Du s n)) ?_ ⟨rfl,rfl⟩ (by intro i hi;cases hi);unfold execOp;rw[ho];have aUP:n.toNat<s.size:=by omega
   have hs:(if 0<=n then s[n.toNat]? else none)=some s[n.toNat]:=by
    rw[if_pos iN.1];exact getElem?_pos s n.toNat aUP
   have Zr:Du s n=(s[n.toNat].toNat:Int):=by
    unfold Du;rw[getElem?_pos s n.toNat aUP]
   simp only[Instr.index,Sem.run_bind,hz,asIntOf,Sem.run_pure,run_underlying sM,Result.andThen_ok,ha,hs,Zr]
  ·cases he
 ·cases he
end
end AI
namespace AI
open Go Go.RowKit
section
variable {P:Program} {E:Env} {X:Nat->Prop} {w0:Old} {ρ:Nat->Nat} {al:Nat->Prop} {fr:Nat->A} {hp:Nat->Option iM} {a:Act} {w:World} {o:Oper} {id:Nat} {x:A} {u:oC}
theorem wK{R:Type}{n:Int}{K:Nat->Option R}{r:R}:∀{m j:Nat},splitN n m j K=some r->∃i,j<=i/\i<j+m/\n=(i:Int)/\K i=some r
 |0,_,h=>by cases h
 |m+1,j,h=>by
  unfold splitN at h
  by_cases hc:n=(j:Int)
  ·rw[decide_eq_true hc]at h;exact⟨j,bNB _,by omega,hc,h⟩
  ·rw[decide_eq_false hc]at h;obtain⟨i,h1,h2,h3,h4⟩:=wK (m:=m) (j:=j+1) h;exact⟨i,by omega,by omega,h3,h4⟩
theorem Zm{R:Type}{sh:Bool}{hp:Nat->Option iM}{t:TI}{nV:Nat}{x:A}{n:Int}{K:A->Option R}{r:R}(h:Mv sh hp t nV x n K=some r):idxK hp t nV x n K=some r:=by
 unfold Mv at h;split at h
 ·split at h
  ·obtain⟨i,_,_,hn,h⟩:=wK h;rw[hn];exact h
  ·exact h
 ·exact h
theorem wrap_small{n:Int}(h0:0<=n)(h1:n<=room):i64.wrap n=n:=by
 unfold room at h1;unfold IntKind.wrap;simp only[IntKind.bits,IntKind.signed];have e:n%(2^64:Int)=n:=by omega
 simp only[e];rw[if_neg (by simp;omega)]
theorem run_make(w:World)(t e:TypeId)(i:TypeInfo)(z:Value)(hu:P.underlying t=some (.slice e))(hi:P.info? e=some i)(hz:i.zero=some z)(kl kc:IntKind)(l c:Int)(h0:0<=l)(h1:l<=c)(h2:c<=room)(hb:i.bytes<=8) :
  (Instr.makeSlice t (.int kl l) (.int kc c)).run P w=.ok (.slice (some ⟨w.heap.size,0,none⟩) l.toNat c.toNat) (w.alloc (.cells ((Array.range (c.toNat*i.size)).map (z.cells[·%z.cells.size]!)) e)):=by
 have e1:i64.wrap l=l:=wrap_small h0 (by omega);have e2:i64.wrap c=c:=wrap_small (by omega) h2;have hbc:¬((i.bytes:Int)*c>2^48):=by
  have:(i.bytes:Int)*c<=8*c:=bPL (by omega) (by omega);unfold room at h2;omega
 have aMY:¬((i.bytes:Int)*l>2^48):=by
  have:(i.bytes:Int)*l<=8*l:=bPL (by omega) (by omega);unfold room at h2;omega
 unfold Instr.makeSlice;simp only[Sem.run_bind,run_underlying hu,Result.andThen_ok,asInt,asIntOf,Sem.run_pure,typeInfo,run_program,hi,e1,e2];rw[if_neg (by simp;omega)];have pY:∀w:World,(sizeOf e).run P w=.ok i.size w:=fun w=>by simp[sizeOf,typeInfo,hi]
 have aEB:∀w:World,(zeroValue e).run P w=.ok z w:=fun w=>by simp[zeroValue,typeInfo,hi,hz]
 simp only[Sem.run_bind,run_askRoom,Result.andThen_ok,pY]
 by_cases hc:c.toNat*i.size=0
 ·rw[if_pos hc];have e0:∀(f g:Nat->Value),Array.map f (Array.range 0)=Array.map g (Array.range 0):=fun f g=>by simp[Array.range]
  simp only[Sem.run_bind,Sem.run_pure,Result.andThen_ok,hc];rw[e0 _ (fun x=>z.cells[x%z.cells.size]!)];rfl
 ·rw[if_neg hc];simp only[Sem.run_bind,aEB,Sem.run_pure,Result.andThen_ok];rfl
theorem Jt (h : gX E X w0 ρ al fr hp a w) (hd : hI E.nt o = true) (hT : mJ P E.T) (tZ : ∀ j, j < 8 → ¬ al (id + j)) {t : TypeId} {y z : Operand} (ho : o.op = .makeSlice t y z) (he : oZ E id o (evA E fr) hp = some (x, u)) : iE P E X w0 al fr hp a w o id x u := by
  unfold oZ effK at he
  rw [ho] at he
  simp only at he
  split at he
  · rename_i s0 b0 z0 e k1 l k2 c uM bAO bJT
    have hy := pJ h bAO
    have hz := pJ h bJT
    have ht := hT t _ uM
    obtain ⟨d, sM, zS⟩ := ht.d
    have zS : d = .slice e := zS
    subst zS
    split at he
    · rename_i bytes k0 z0' k Jb
      have Hd := hT e _ Jb
      obtain ⟨i, hi, pY, aMX, zv, aEB, Jn⟩ := Hd.i
      split at he
      · rename_i Hj
        split at he <;> cases he
        rename_i Hi
        obtain ⟨h0, h1, h2⟩ := Hi
        have pY : i.size = 1 := pY
        have aMX : i.bytes = bytes := aMX
        have fH := run_make (P := P) w t e i zv sM hi aEB k1 k2 l c h0 h1 h2 (by omega)
        obtain ⟨_, _, rfl, rfl⟩ := Hj
        have Jn : zv.cells.toList = [.int k0 0] := Jn
        have aMJ : zv.cells.size = 1 := by have : zv.cells.toList.length = 1 := by rw [Jn]; rfl
                                           simpa using this
        have aJV : zv.cells[0]! = .int k0 0 := by
          rw [getElem!_pos zv.cells 0 (by omega)]
          have : zv.cells.toList[0]? = some (.int k0 0) := by rw [Jn]; rfl
          simpa [Array.getElem?_eq_getElem (show 0 < zv.cells.size by omega)] using this
        have h3 := h.alloc (id := id) (al' := mB al id) (tZ 0 (by omega)) (fun _ h => .inl h) (oM id) e (.ints k0 (bPE l.toNat 0)) ((Array.range (c.toNat * i.size)).map (zv.cells[· % zv.cells.size]!)) (by
          refine ⟨by simp [pY]; omega, fun j n hn => ?_⟩
          have hj := aR hn
          simp at hj
          rw [List.getElem?_replicate, if_pos (by omega)] at hn
          cases hn
          have bKE : j < c.toNat := by omega
          simp only [aMJ, Nat.mod_one, aJV, pY, bNL]
          simp [bKE])
        refine ⟨_, .slice (some ⟨w.heap.size, 0, none⟩) l.toNat c.toNat, _, .inl ?_, h3.pure hd (x := .v (.one (.buf id l.toNat))) ?_ ?_⟩
        · unfold execOp
          rw [ho]
          simp only [hy, hz, Sem.run_bind, fH, Result.andThen_ok, Sem.run_pure]
        · refine ⟨c.toNat, by rw [bD], by omega, fun blk k' ns hb hk => ?_, fun blk cs hb hk => by rw [bD] at hb; cases hb; cases hk⟩
          rw [bD] at hb
          cases hb
          cases hk
          refine ⟨by simp, by unfold room at h2; unfold maxLen; omega, ?_⟩
          rw [bD, jD (uB w _)]
          simp [pY]
        · intro i hi
          simp only [refs, refsV, refsL, bNS] at hi
          subst hi
          exact oM i
      · cases he
    · cases he
  · cases he
theorem uD(h:gX E X w0 ρ al fr hp a w){d l:Int}{y:Option Operand}(he:bndA d (y.map (evA E fr))=some l):(y=none/\l=d)\/∃z k,y=some z/\a.eval z=.int k l:=by
 cases y with
 |none=>cases he;exact .inl ⟨rfl,rfl⟩
 |some z =>
  refine .inr ⟨z,?_⟩;have hz:=(h.ev z).1;simp only[bNO]at he;unfold bndA at he;split at he
  ·cases ‹some _=none›
  ·rename_i k n gV;cases he;have gV:evA E fr z=.v (.one (.s (.sc (.int k l)))):=Option.some.inj gV;rw[gV]at hz;exact⟨k,rfl,hz.1⟩
  ·cases he
theorem run_sliceBound(k:IntKind)(n:Int)(y:Nat)(c:BoundsCode)(h0:0<=n)(h1:n<=y):(Instr.sliceBound (.int k n) y c).run P w=.ok n.toNat w:=by
 unfold Instr.sliceBound;simp only[Sem.run_bind,asIntOf,Sem.run_pure,Result.andThen_ok];rw[if_pos ⟨h0,h1⟩];rfl
theorem Tl(len cap:Nat)(aRH:len<=cap)(lo hi mx:Option Operand)(h:gX E X w0 ρ al fr hp a w)
  {R:Type} {K:Nat->Nat->Option R} {r:R} (he:sliceK len (lo.map (evA E fr)) (hi.map (evA E fr)) (mx.map (evA E fr)) K=some r) :
  ∃l h' m,K l h'=some r/\l<=h'/\h'<=len/\h'<=m/\m<=cap/\(Instr.sliceBounds true len cap (lo.map a.eval) (hi.map a.eval) (mx.map a.eval)).run P w=.ok (l,h',m) w:=by
 unfold sliceK at he;split at he
 ·rename_i l h' hl hh hm;have bJQ:mx=none:=by cases mx with
   |none=>rfl
   |some y=>cases hm
  subst bJQ;split at he
  ·rename_i hc;obtain⟨c0,c1,c2⟩:=hc;refine⟨l.toNat,h'.toNat,cap,he,by omega,by omega,by omega,bNB _,?_⟩;unfold Instr.sliceBounds;rcases uD h hh with ⟨rfl,rfl⟩ |⟨yh,kh,rfl,aUT⟩
   ·rcases uD h hl with ⟨rfl,rfl⟩ |⟨yl,kl,rfl,aBJ⟩
    ·rfl
    ·simp only[bPM,bNO,Sem.run_bind,Sem.run_pure,Result.andThen_ok,aBJ,Option.isSome_none];rw[run_sliceBound kl l len _ c0 (by omega)];rfl
   ·simp only[bPM,bNO,Sem.run_bind,Sem.run_pure,Result.andThen_ok,aUT];rw[run_sliceBound kh h' cap _ (by omega) (by omega)];simp only[Result.andThen_ok];rcases uD h hl with ⟨rfl,rfl⟩ |⟨yl,kl,rfl,aBJ⟩
    ·rfl
    ·simp only[bNO,aBJ,Sem.run_bind];rw[run_sliceBound kl l h'.toNat _ c0 (by omega)];rfl
  ·cases he
 ·rename_i l h' mxa hl hh hm;split at he
  ·rename_i ya m bIM bFG;split at he
   ·rename_i hc;obtain⟨c0,c1,c2,c3⟩:=hc;obtain⟨ym,rfl,km,bAS⟩:∃ym,mx=some ym/\∃km,a.eval ym=.int km m:=by
     rw[<-hm]at bFG;rcases uD h bFG with ⟨rfl,_⟩ |⟨ym,km,rfl,bAS⟩
     ·cases hm
     ·exact⟨ym,rfl,km,bAS⟩
    obtain⟨yh,rfl,kh,aUT⟩:∃yh,hi=some yh/\∃kh,a.eval yh=.int kh h':=by
     rcases uD h hh with ⟨rfl,_⟩ |⟨yh,kh,rfl,aUT⟩
     ·cases bIM
     ·exact⟨yh,rfl,kh,aUT⟩
    refine⟨l.toNat,h'.toNat,m.toNat,he,by omega,by omega,by omega,by omega,?_⟩;unfold Instr.sliceBounds;simp only[bNO,Sem.run_bind,bAS];rw[run_sliceBound km m cap _ (by omega) (by omega)];simp only[Result.andThen_ok,aUT];rw[run_sliceBound kh h' m.toNat _ (by omega) (by omega)];simp only[Result.andThen_ok];rcases uD h hl with ⟨rfl,rfl⟩ |⟨yl,kl,rfl,aBJ⟩
    ·rfl
    ·simp only[bNO,aBJ,Sem.run_bind];rw[run_sliceBound kl l h'.toNat _ c0 (by omega)];rfl
   ·cases he
  ·cases he
 ·cases he
theorem kS{t e:TypeId}{size:Nat}(hu:P.underlying t=some (.slice e))(hs:(sizeOf e).run P w=.ok size w)(A0:Option Addr)(len cap:Nat)(aRH:len<=cap)(lo hi mx:Option Operand)(h:gX E X w0 ρ al fr hp a w)
  {R:Type} {K:Nat->Nat->Option R} {r:R} (he:sliceK len (lo.map (evA E fr)) (hi.map (evA E fr)) (mx.map (evA E fr)) K=some r) :
  ∃l h' m,K l h'=some r/\l<=h'/\h'<=len/\h'<=m/\m<=cap/\(Instr.sliceAt t (.slice A0 len cap) (lo.map a.eval) (hi.map a.eval) (mx.map a.eval)).run P w=.ok (.slice (if m=l then A0 else A0.map (·.add (l*size))) (h'-l) (m-l)) w:=by
 obtain⟨l,h',m,h1,h2,h3,h4,h5,fH⟩:=Tl (P:=P) len cap aRH lo hi mx h he;refine⟨l,h',m,h1,h2,h3,h4,h5,?_⟩;unfold Instr.sliceAt;rw[Sem.run_bind,run_underlying hu,Result.andThen_ok];simp only[Instr.slice,Sem.run_bind,run_underlying hu,Result.andThen_ok,fH,hs,Sem.run_pure]
theorem aAI(h:gX E X w0 ρ al fr hp a w)(hd:hI E.nt o=true)(hT:mJ P E.T){t:TypeId}{y:Operand}{lo hi mx:Option Operand}(ho:o.op=.slice t y lo hi mx)(he:oZ E id o (evA E fr) hp=some (x,u)):iE P E X w0 al fr hp a w o id x u:=by
 have hy:=h.ev y;unfold oZ effK at he;rw[ho]at he;simp only at he;split at he
 ·rename_i s0 b0 z0 e uM;obtain⟨d,sM,zS⟩:=(hT t _ uM).d;have zS:d=.slice e:=zS;subst zS;split at he
  ·rename_i bytes zero k Jb;have pY:=(hT e _ Jb).run_sizeOf (w:=w);have hex:∀v,(Instr.sliceAt t (a.eval y) (lo.map a.eval) (hi.map a.eval) (mx.map a.eval)).run P w=.ok v w->(execOp a.eval o).run P w=.ok (.value v) w:=by
    intro v hv;unfold execOp;rw[ho];simp only[Sem.run_bind,hv,Result.andThen_ok,Sem.run_pure]
   split at he
   ·rename_i k' ns gV;split at he
    ·rename_i hk;subst hk;rw[gV]at hy;obtain⟨⟨A0,c,hv,aRH,iF⟩,_⟩:=hy;obtain⟨l,h',m,hK,h1,h2,h3,h4,fH⟩:=kS (P:=P) sM pY A0 ns.length c aRH lo hi mx h he;obtain⟨e1,e2⟩:=Prod.mk.inj (Option.some.inj hK);rw[<-e1,<-e2];rw[<-hv]at fH;have hlen:((ns.take h').drop l).length=h'-l:=by simp;omega
     refine bW h hd (hex _ fH) ⟨_,m-l,by rw[hlen],by rw[hlen];omega,fun i n hn=>?_⟩ (by simp[refs,refsV,refsL]);rw[bNN,List.getElem?_take]at hn;split at hn
     ·rename_i hli;obtain⟨b,off,hA,hb,hx,hc⟩:=iF (l+i) n hn;refine⟨b,off+l,?_,hb,hx,by rw[<-hc];congr 2;omega⟩;rw[aX,hA];simp[jY]
     ·cases hn
    ·cases he
   ·rename_i gV;rw[gV]at hy;have hv:a.eval y=.slice none 0 0:=hy.1.1;obtain⟨l,h',m,hK,h1,h2,h3,h4,fH⟩:=kS (P:=P) sM pY none 0 0 (bNB _) lo hi mx h he;obtain⟨e1,e2⟩:=Prod.mk.inj (Option.some.inj hK);rw[<-e1,<-e2];rw[<-hv]at fH;have hlen:h'-l=([]:List Int).length:=by simp;omega
    exact bW h hd (hex _ fH) ⟨_,m-l,by rw[hlen],by simp,fun i n hn=>by simp at hn⟩ (by simp[refs,refsV,refsL])
   ·rename_i i n gV;rw[gV]at hy;obtain⟨⟨cap,hv,yO,hc,_⟩,pK⟩:=hy;obtain⟨l,h',m,hK,h1,h2,h3,h4,fH⟩:=kS (P:=P) sM pY _ n cap yO lo hi mx h he;obtain⟨e1,e2⟩:=Prod.mk.inj (Option.some.inj hK);rw[<-e1,<-e2];rw[<-hv]at fH;refine bW h hd (hex _ fH) ⟨if m=l then 0 else l,m-l,?_,by omega,fun oO=>?_,fun h0=>?_,fun blk k' ns hb hk=>?_⟩ pK
    ·congr 1;split <;> simp_all [jY]
    ·rw[aX]
    ·split <;> omega
    ·have:=hc blk k' ns hb hk;exact⟨by omega,by omega,by omega⟩
   ·rename_i i off n gV;rw[gV]at hy;obtain⟨⟨o',cap,hv,yO,hA,hA0,hc⟩,pK⟩:=hy;obtain⟨l,h',m,hK,h1,h2,h3,h4,fH⟩:=kS (P:=P) sM pY _ n cap yO lo hi mx h he;obtain⟨e1,e2⟩:=Prod.mk.inj (Option.some.inj hK);rw[<-e1,<-e2];rw[<-hv]at fH;refine bW h hd (hex _ fH) ⟨if m=l then o' else o'+l,m-l,?_,by omega,fun oO=>?_,fun h0=>?_,fun blk k' ns hb hk=>?_⟩ pK
    ·congr 1;split <;> simp_all [jY]
    ·rw[aX,hA (by omega)]
    ·have:=hA0 (by omega);split <;> omega
    ·have:=hc blk k' ns hb hk;exact⟨by omega,by omega,by omega⟩
   ·cases he
  ·rename_i te _ Jb;have pY:=(hT e _ Jb).run_sizeOf (w:=w);split at he
   ·rename_i sz n f gV;split at he
    ·rename_i aZW;subst aZW;rw[gV]at hy;obtain⟨⟨A0,cap,hv,yO,aOS⟩,_⟩:=hy;obtain⟨l,h',m,hK,h1,h2,h3,h4,fH⟩:=kS (P:=P) sM pY A0 n cap yO lo hi mx h he;obtain⟨e1,e2⟩:=Prod.mk.inj (Option.some.inj hK);rw[<-e1,<-e2];rw[<-hv]at fH;have hex:(execOp a.eval o).run P w=.ok (.value (.slice (if m=l then A0 else A0.map (·.add (l*te.size))) (h'-l) (m-l))) w:=by
      unfold execOp;rw[ho];simp only[Sem.run_bind,fH,Result.andThen_ok,Sem.run_pure]
     refine bW h hd hex ⟨_,m-l,rfl,by omega,fun i hi=>?_⟩ (by simp[refs,refsV,refsL]);obtain⟨r1,b,off,hA,r2⟩:=aOS (l+i) (by omega);refine⟨r1,b,off+l*te.size,?_,?_⟩
     ·rw[aX,hA];simp[jY]
     ·rw[show off+l*te.size+i*te.size=off+(l+i)*te.size by rw[bNV];omega];exact r2
    ·cases he
   ·cases he
  ·cases he
 ·cases he
theorem An{α:Type}{x y:α}{i:Nat}(h:[x][i]?=some y):i=0/\y=x:=by
 match i with
 |0=>simp at h;exact⟨rfl,h.symm⟩
 |i+1=>simp at h
theorem Ju(h:gX E X w0 ρ al fr hp a w)(hd:hI E.nt o=true)(hT:mJ P E.T){t:TypeId}{y z:Operand}(ho:o.op=.indexAddr t y z)(he:oZ E id o (evA E fr) hp=some (x,u)):iE P E X w0 al fr hp a w o id x u:=by
 have hy:=h.ev y;unfold oZ effK at he;rw[ho]at he;simp only at he;split at he
 ·rename_i ti k n uM aUV;have hz:=pJ h aUV;have ht:=hT t _ uM;obtain⟨d,sM,zS⟩:=ht.d;split at he
  ·
   rename_i e Qs;rw[Qs]at zS;have zS:d=.slice e:=zS;subst zS;split at he
   ·rename_i te Jb;have pY:=(hT e _ Jb).run_sizeOf (w:=w);have hex:∀b off len cap,a.eval y=.slice (some ⟨b,off,none⟩) len cap->0<=n/\n<(len:Int)->(execOp a.eval o).run P w=.ok (.value (.pointer (some ⟨b,off+n.toNat*te.size,none⟩))) w:=by
     intro b off len cap hv hn;unfold execOp;rw[ho];simp only[hv,hz,Instr.indexAt,Sem.run_bind,asIntOf,Sem.run_pure,Result.andThen_ok,run_underlying sM];rw[if_pos hn];simp only[Sem.run_bind,pY,Result.andThen_ok,Sem.run_pure,jY]
    split at he
    ·cases he
    ·cases he
    ·rename_i xa aBI aUK;have he:=Zm he;unfold idxK at he;split at he
     ·rename_i k' ns gV;rw[gV]at hy;obtain⟨⟨A0,c,hv,aRH,iF⟩,_⟩:=hy;split at he
      ·rename_i aPF;split at he
       ·rename_i hn;obtain⟨e1,e2⟩:=Prod.mk.inj (Option.some.inj he);rw[<-e1,<-e2];have iN:n.toNat<ns.length:=by omega
        obtain⟨b,off,hA,hb,hx,hc⟩:=iF n.toNat ns[n.toNat] (bNR iN);subst hA;refine bW h hd (hex b off ns.length c hv hn) ⟨b,off+n.toNat*te.size,rfl,fun i s hs=>?_⟩ (by simp[refs,refsV,refsL]);obtain⟨rfl,rfl⟩:=An hs;refine⟨hb,hx,_,by rw[aPF,bNL,bOC];exact hc,?_,rfl⟩;simp[bOV,iN]
       ·cases he
      ·cases he
     ·rename_i i m gV;rw[gV]at hy;obtain⟨⟨cap,hv,yO,hc,_⟩,pK⟩:=hy;split at he
      ·rename_i e' k' ns hb;split at he
       ·rename_i aPF;split at he
        ·rename_i hn;obtain⟨e1,e2⟩:=Prod.mk.inj (Option.some.inj he);rw[<-e1,<-e2];refine bW h hd (hex _ _ m cap hv hn) ⟨by rw[aPF,bND,bNL],fun blk k1 Sn vR Ep=>?_⟩ pK;have:=(hc blk k1 Sn vR Ep).1;omega
        ·cases he
       ·cases he
      ·rename_i e' cs hb;split at he
       ·rename_i hn;obtain⟨e1,e2⟩:=Prod.mk.inj (Option.some.inj he);rw[<-e1,<-e2];refine bW h hd (hex _ _ m cap hv hn) ?_ pK;show _=_;rw[bND]
       ·cases he
      ·cases he
     ·rename_i i off m gV;rw[gV]at hy;obtain⟨hy,pK⟩:=hy;obtain⟨A0,cap,hv,yO,hA,hc⟩:=tN hy;split at he
      ·rename_i e' k' ns hb;split at he
       ·rename_i aPF;split at he
        ·rename_i hn;obtain⟨e1,e2⟩:=Prod.mk.inj (Option.some.inj he);rw[<-e1,<-e2];have hA:=hA (by omega);subst hA;refine bW h hd (hex _ _ m cap hv hn) ⟨by rw[aPF,bNL],fun blk k1 Sn vR Ep=>?_⟩ pK;have:=hc blk k1 Sn vR Ep;omega
        ·cases he
       ·cases he
      ·cases he
     ·rename_i sz m f gV;rw[gV]at hy;obtain⟨⟨A0,c,hv,aRH,iF⟩,_⟩:=hy;split at he
      ·rename_i aPF;split at he
       ·rename_i hn;obtain⟨e1,e2⟩:=Prod.mk.inj (Option.some.inj he);rw[<-e1,<-e2];obtain⟨aRL,b,off,hA,hc⟩:=iF n.toNat (by omega);subst hA;exact bW h hd (hex b off m c hv hn) ⟨b,off+n.toNat*te.size,rfl,by rw[<-aPF];exact hc⟩ (by simp[refs,refsV,refsL])
       ·cases he
      ·cases he
     ·exact absurd ‹_› (aBI _ _)
     ·exact absurd ‹_› (aUK _ _)
     ·cases he
   ·cases he
  ·
   rename_i len nV g Qs;rw[Qs]at zS;obtain⟨e,ei,ed,rfl,Zw,aMS,bFN,bFM⟩:=zS;have pY:(sizeOf e).run P w=.ok nV w:=by simp[sizeOf,typeInfo,Zw,aMS]
   have hex:∀b off,a.eval y=.pointer (some ⟨b,off,none⟩)->0<=n/\n<(len:Int)->(execOp a.eval o).run P w=.ok (.value (.pointer (some ⟨b,off+n.toNat*nV,none⟩))) w:=by
    intro b off hv hn;unfold execOp;rw[ho];simp only[hv,hz,Instr.indexAt,Sem.run_bind,asIntOf,Sem.run_pure,Result.andThen_ok,run_underlying sM,Instr.sureAddr];rw[if_pos hn];simp only[Sem.run_bind,pY,Result.andThen_ok,Sem.run_pure,jY]
   split at he
   ·rename_i i off gV;rw[gV]at hy;simp only[idxK,Qs]at he;cases hb:bNE len 8 with
    |true =>
     rw[hb,cond_true]at he;obtain⟨j,_,hj,hn,he⟩:=wK he;obtain⟨e1,e2⟩:=Prod.mk.inj (Option.some.inj he);rw[<-e1,<-e2];have hx:=hex _ _ hy.1 (by omega);rw[hn,Int.toNat_natCast]at hx;exact bW h hd hx rfl hy.2
    |false =>
    rw[hb,cond_false]at he;split at he
    ·rename_i hn;obtain⟨e1,e2⟩:=Prod.mk.inj (Option.some.inj he);rw[<-e1,<-e2];exact bW h hd (hex _ _ hy.1 hn) rfl hy.2
    ·cases he
   ·rename_i k' ns gV;rw[gV]at hy;obtain⟨⟨b,off,hv,hc⟩,_⟩:=hy;simp only[idxK,Qs]at he;split at he
    ·rename_i hl;split at he
     ·rename_i hn;obtain⟨e1,e2⟩:=Prod.mk.inj (Option.some.inj he);rw[<-e1,<-e2];have iN:n.toNat<ns.length:=by omega
      refine bW h hd (hex _ _ hv hn) ⟨b,off+n.toNat*nV,rfl,fun i s hs=>?_⟩ (by simp[refs,refsV,refsL]);obtain⟨rfl,rfl⟩:=An hs;have:=hc n.toNat (.sc (.int k' (ns.getD n.toNat 0))) (by simp[tW,bOV,iN]);rw[hl.2,bNL,bOC];exact this
     ·cases he
    ·cases he
   ·cases he
  ·cases he
 ·cases he
theorem foldMM_sound(op:BinOp)(bt:Value->Value->Sem Value)(aVK:∀k n m,∀w,(bt (.int k n) (.int k m)).run P w=.ok (.int k (match op with | .gtr=>if m>n then m else n |_=>if m<n then m else n)) w)(h:gX E X w0 ρ al fr hp a w)(k:IntKind):∀(ys:List Operand) (n r:Int),
  foldMM op k n (ys.map (evA E fr))=some r->((ys.map a.eval).foldlM bt (.int k n)).run P w=.ok (.int k r) w
 | [],n,r,he=>by cases he;rfl
 |y :: ys,n,r,he=>by
  simp only[bNA]at he ⊢;unfold foldMM at he;split at he
  ·cases ‹_ :: _=[]›
  ·rename_i n0 k' m rest gV;obtain⟨gV,vQ⟩:=List.cons.inj gV;split at he
   ·rename_i hk;subst hk;have hy:=(h.ev y).1;rw[gV]at hy;have hy:a.eval y=.int k m:=hy.1;rw[<-vQ]at he;have ih:=foldMM_sound op bt aVK h k ys _ r he;simp only[List.foldlM_cons,Sem.run_bind,hy,aVK,Result.andThen_ok];exact ih
   ·cases he
  ·cases he
theorem Ub(h:gX E X w0 ρ al fr hp a w){y:Operand}{n:Nat}(he:lenA (evA E fr y)=some n):∃A0 cap,a.eval y=.slice A0 n cap:=by
 have hy:=(h.ev y).1;unfold lenA at he;split at he
 ·rename_i k ns gV;cases he;rw[gV]at hy;obtain⟨A0,c,hv,_⟩:=hy;exact⟨A0,c,hv⟩
 ·rename_i gV;cases he;rw[gV]at hy;exact⟨none,0,hy.1⟩
 ·rename_i i n' gV;cases he;rw[gV]at hy;obtain⟨cap,hv,_⟩:=hy;exact⟨_,cap,hv⟩
 ·rename_i i off n' gV;cases he;rw[gV]at hy;obtain⟨A0,cap,hv,_⟩:=tN hy;exact⟨A0,cap,hv⟩
 ·rename_i sz n' f gV;cases he;rw[gV]at hy;obtain⟨A0,cap,hv,_⟩:=hy;exact⟨A0,cap,hv⟩
 ·cases he
theorem qW(h:gX E X w0 ρ al fr hp a w){k:IntKind}{y:Operand}{ns:List Int}(he:intsOf hp k (evA E fr y)=some ns) :
  ∃A0 cap,a.eval y=.slice A0 ns.length cap/\∀(i:Nat) (n:Int),ns[i]?=some n->∃ad,A0=some ad/\w.cell? (ad.add i)=some (.int k n):=by
 have hy:=(h.ev y).1;unfold intsOf at he;split at he
 ·rename_i k' lC gV;split at he <;> cases he;rename_i hk;subst hk;rw[gV]at hy;obtain⟨A0,c,hv,hle,hc⟩:=hy;refine⟨A0,c,hv,fun i n hn=>?_⟩;obtain⟨b,off,hA,_,_,aEV⟩:=hc i n hn;exact⟨_,hA,by rw[jY];exact aEV⟩
 ·rename_i gV;cases he;rw[gV]at hy;exact⟨none,0,hy.1,fun i n hn=>by simp at hn⟩
 ·rename_i i m gV;split at he
  ·rename_i e k' lC hb;split at he <;> cases he;rename_i hk;subst hk;rw[gV]at hy;obtain⟨cap,hv,hle,hc,_⟩:=hy;obtain⟨hm,_⟩:=hc _ k ns hb rfl;subst hm;refine⟨_,cap,hv,fun j n hn=>⟨_,rfl,?_⟩⟩;rw[jY,bND];exact h.vD hb hn
  ·cases he
 ·rename_i i off m gV;split at he
  ·rename_i e k' lC hb;split at he <;> cases he;rename_i hk;subst hk;rw[gV]at hy;obtain⟨A0,cap,hv,hle,hA,hc⟩:=tN hy;have hl:=hc _ k lC hb rfl;have hlen:((lC.drop off).take m).length=m:=by simp;omega
   refine⟨A0,cap,by rw[hlen];exact hv,fun j n hn=>?_⟩;have hj:j<m:=by have:=aR hn;omega
   refine⟨_,hA (by omega),?_⟩;rw[jY];rw[bNG hj,bNN]at hn;exact h.vD hb hn
  ·cases he
 ·cases he
theorem jI{b:Builtin}{args:Array Operand}{uL:Array TypeId}(ho:o.op=.call ⟨.builtin b,args,uL⟩){f:Array TypeId->TypeId->Array Value->Sem Value}(hf:∀consts vs,builtin b uL o.type consts vs=(do pure (.value (<-f uL o.type vs)):Sem Next)){v:Value}{w':World}(hr:(f uL o.type (args.map a.eval)).run P w=.ok v w') :
  (execOp a.eval o).run P w=.ok (.value v) w':=by
 unfold execOp;rw[ho];simp only[resolve,Sem.run_bind,Sem.run_pure,Result.andThen_ok,invoke,hf,hr]
theorem aDR(k:IntKind)(n m:Int)(w:World):(Builtin.max2 (.int k n) (.int k m)).run P w=.ok (.int k (if m>n then m else n)) w:=(rfl:_=Result.ok (Value.int k (@ite Int (m>n) (Int.decLt n m) m n)) w).trans (by congr)
theorem aDQ(k:IntKind)(n m:Int)(w:World):(Builtin.min2 (.int k n) (.int k m)).run P w=.ok (.int k (if m<n then m else n)) w:=(rfl:_=Result.ok (Value.int k (@ite Int (m<n) (Int.decLt m n) m n)) w).trans (by congr)
theorem aKP(h:gX E X w0 ρ al fr hp a w)(hd:hI E.nt o=true)(hT:mJ P E.T){args:Array Operand}{uL:Array TypeId}(ho:o.op=.call ⟨.builtin .len,args,uL⟩)(he:oZ E id o (evA E fr) hp=some (x,u)):iE P E X w0 al fr hp a w o id x u:=by
 obtain⟨args⟩:=args;obtain⟨uL⟩:=uL;unfold oZ effK at he;rw[ho]at he;simp only[builtinK]at he
 match args,uL,he with
 | [y],[t],he =>
  simp only[bNA,bNT]at he;split at he
  ·rename_i s0 b0 z0 e n uM hlen;cases he;obtain⟨d,sM,zS⟩:=(hT t _ uM).d;have zS:d=.slice e:=zS;subst zS;obtain⟨A0,cap,hv⟩:=Ub h hlen;refine bW h hd (v:=.int .i64 n) (jI ho (f:=Builtin.len_) (fun _ _=>rfl) ?_) ⟨rfl,rfl⟩ (by simp[kT]);simp[Builtin.len_,run_underlying sM,hv,goInt]
  ·rename_i s0 b0 z0 n nV g uM;cases he;obtain⟨d,sM,e,ei,ed,rfl,_⟩:=(hT t _ uM).d;refine bW h hd (v:=.int .i64 n) (jI ho (f:=Builtin.len_) (fun _ _=>rfl) ?_) ⟨rfl,rfl⟩ (by simp[kT]);simp[Builtin.len_,run_underlying sM,goInt]
  ·cases he
 | [],_,he=>simp at he
 |_ :: _ :: _,_,he=>simp at he
 | [_],[],he=>simp at he
 | [_],_ :: _ :: _,he=>simp at he
theorem Hq(h:gX E X w0 ρ al fr hp a w)(hd:hI E.nt o=true){b:Builtin}(hb:b=.max\/b=.min){args:Array Operand}{uL:Array TypeId}(ho:o.op=.call ⟨.builtin b,args,uL⟩)(he:oZ E id o (evA E fr) hp=some (x,u)):iE P E X w0 al fr hp a w o id x u:=by
 obtain⟨args⟩:=args;unfold oZ effK at he;rw[ho]at he;simp only at he
 match args,he with
 | [],he=>rcases hb with rfl |rfl <;> simp[builtinK]at he
 |y :: ys,he =>
  simp only[bNA]at he;have hy:=(h.ev y).1;rcases hb with rfl |rfl
  ·unfold builtinK at he;split at he <;> first | (cases he;done) | (simp_all;done) |skip
   rename_i b k n rest vR gV;obtain⟨gV,vQ⟩:=List.cons.inj gV;rw[gV]at hy;have hy:a.eval y=.int k n:=hy.1;split at he <;> cases he;rename_i m hm;rw[<-vQ]at hm;have hr:=foldMM_sound (P:=P) .gtr Builtin.max2 (fun k n m w=>aDR k n m w) h k ys n m hm;refine bW h hd (v:=.int k m) (jI ho (f:=Builtin.max_) (fun _ _=>rfl) ?_) ⟨rfl,rfl⟩ (by simp[kT]);unfold Builtin.max_;simp only[bNW,bNA,hy];exact hr
  ·unfold builtinK at he;split at he <;> first | (cases he;done) | (simp_all;done) |skip
   rename_i b k n rest vR gV;obtain⟨gV,vQ⟩:=List.cons.inj gV;rw[gV]at hy;have hy:a.eval y=.int k n:=hy.1;split at he <;> cases he;rename_i m hm;rw[<-vQ]at hm;have hr:=foldMM_sound (P:=P) .lss Builtin.min2 (fun k n m w=>aDQ k n m w) h k ys n m hm;refine bW h hd (v:=.int k m) (jI ho (f:=Builtin.min_) (fun _ _=>rfl) ?_) ⟨rfl,rfl⟩ (by simp[kT]);unfold Builtin.min_;simp only[bNW,bNA,hy];exact hr
end
end AI
namespace AI
open Go Go.RowKit
section
variable {P:Program} {E:Env} {X:Nat->Prop} {w0:Old} {ρ:Nat->Nat} {al:Nat->Prop} {fr:Nat->A} {hp:Nat->Option iM} {a:Act} {w:World} {o:Oper} {id:Nat} {x:A} {u:oC}
def eT(k:IntKind)(ns:List Int):List Value:=ns.map fun n=>.int k n
theorem Dy(k:IntKind)(ns:List Int):∀v∈eT k ns,v.oneCell'=true:=by
 intro v hv;obtain⟨n,_,rfl⟩:=List.mem_map.1 hv;rfl
theorem uC{w w':World}{row:Option Nat}(hg:w.grownBy w' row){k:Nat}(hk:k<w.heap.size)(Br:row≠some k):w'.heap[k]?=w.heap[k]?:=hg.block k hk (fun e=>Br e.symm)
theorem gX.Rx(h:gX E X w0 ρ al fr hp a w){i:Nat}{e:TypeId}{c c2:rH}(hb:hp i=some ⟨e,c⟩)(Eo:E.n0<=i)(tZ:¬al id){g:Nat}{lY:Array Value}{w':World}(hg:w.grownBy w' (some (ρ i)))
  (hw:w'.heap[g]?=some (.cells lY e (0,0))) (yS:g=ρ i\/w.heap.size<=g) (hc:∀X',gB (XO X ρ hp) w X' w'->vJ X' w' c2 lY) :
  gX E X w0 (xU ρ id g) (mB al id) fr (applyUps [(i,none),(id,some ⟨e,c2⟩)] hp) a w':=by
 have hi:=h.alh i _ hb;have Br:i≠id:=fun e=>tZ (e▸hi)
 obtain⟨Hk,arr,Zv,_⟩:=h.blk i _ hb;have Qt:∀j,applyUps [(i,none),(id,some ⟨e,c2⟩)] hp j=if j=id then some ⟨e,c2⟩else if j=i then none else hp j:=by
  intro j;simp only[applyUps]
  by_cases h1:j=id
  ·subst h1;rw[bD,if_pos rfl]
  ·rw[eK _ _ h1,if_neg h1]
   by_cases h2:j=i
   ·subst h2;rw[bD,if_pos rfl]
   ·rw[eK _ _ h2,if_neg h2]
 have hold:∀j b,applyUps [(i,none),(id,some ⟨e,c2⟩)] hp j=some b->j≠id->j≠i/\hp j=some b:=by
  intro j b hj Br;rw[Qt,if_neg Br]at hj;split at hj
  ·cases hj
  ·exact⟨‹_›,hj⟩
 have aJX:∀j b,hp j=some b->j≠i->ρ j≠ρ i:=fun j b hj Br e=>Br (h.inj j i b _ hj hb e)
 have bBR:Kept w0 w w':=⟨hg.os,hg.tape,hg.output,hg.size,fun k hk=>uC hg (by have:=h.below.size;have:=Old.Qb hk;omega) (fun e=>by cases e;exact hk Hk.Em),fun k hk=>uE (uC hg (by have:=h.below.size;have:=w0.aST k hk;omega) (fun e=>by cases e;have:=Hk.new Eo;have:=w0.aST _ hk;omega))⟩;have hl:gB (XO X ρ hp) w (XO X (xU ρ id g) (applyUps [(i,none),(id,some ⟨e,c2⟩)] hp)) w':=by
  refine⟨hg.size,fun b bLD hx=>⟨uC hg bLD (fun e=>hx (.inr ⟨i,_,hb,by cases e;rfl⟩)),fun ho=>?_⟩⟩;rcases ho with ho |⟨j,bl,h1,h2⟩
  ·exact hx (.inl ho)
  ·by_cases hj:j=id
   ·subst hj;rw[bD]at h2;rcases yS with yS |yS
    ·exact hx (.inr ⟨i,_,hb,by omega⟩)
    ·omega
   ·rw[eK _ _ hj]at h2;exact hx (.inr ⟨j,bl,(hold j bl h1 hj).2,h2⟩)
 refine h.change hl bBR ?_ ?_ ?_ (fun _ h=>.inl h) ?_
 ·intro j hj;have Ui:j≠id:=fun e=>tZ (e▸hj)
  refine⟨eK _ _ Ui,fun b' vT=>?_⟩;obtain⟨h1,h2⟩:=hold j b' vT Ui;refine⟨b',h2,sameShape.refl _,?_⟩;unfold jR;rw[uC hg (h.gZ h2) (fun e=>aJX j b' h2 h1 (Option.some.inj e).symm)]
 ·intro j b hj
  by_cases Ui:j=id
  ·subst Ui;rw[Qt,if_pos rfl]at hj;cases hj;rw[bD];exact⟨.inl (yS.elim (fun e=>e▸Hk.new Eo) (fun e=>bNX h.below.size e)),lY,hw,hc _ hl⟩
  ·obtain⟨h1,h2⟩:=hold j b hj Ui;rw[eK _ _ Ui];exact⟨(h.blk j b h2).1,(h.blk j b h2).2.later hl (uC hg (h.gZ h2) (fun e=>aJX j b h2 h1 (Option.some.inj e).symm))⟩
 ·intro j j' b b' h1 h2 e
  by_cases hj:j=id
  ·by_cases aOZ:j'=id
   ·rw[hj,aOZ]
   ·subst hj;obtain⟨h3,h4⟩:=hold j' b' h2 aOZ;rw[bD,eK _ _ aOZ]at e;rcases yS with yS |yS
    ·exact absurd (e.symm.trans yS) (aJX j' b' h4 h3)
    ·have:=h.gZ h4;omega
  ·obtain⟨h5,h6⟩:=hold j b h1 hj
   by_cases aOZ:j'=id
   ·subst aOZ;rw[bD,eK _ _ hj]at e;rcases yS with yS |yS
    ·exact absurd (e.trans yS) (aJX j b h6 h5)
    ·have:=h.gZ h6;omega
   ·obtain⟨h3,h4⟩:=hold j' b' h2 aOZ;rw[eK _ _ hj,eK _ _ aOZ]at e;exact h.inj j j' b b' h6 h4 e
 ·intro j b hj
  by_cases Ui:j=id
  ·subst Ui;exact oM j
  ·exact .inl (h.alh j b (hold j b hj Ui).2)
theorem Jz{arr:Array Value}{k:IntKind}{ns:List Int}(h:arr.toList.take ns.length=eT k ns):∀(j:Nat) (n:Int),ns[j]?=some n->arr[j]?=some (Value.int k n):=by
 intro j n hn;have hj:=aR hn;have:(eT k ns)[j]?=some (.int k n):=by simp[eT,hn]
 rw[<-h,bNG hj]at this;simpa using this
theorem Jh{arr:Array Value}{k:IntKind}{ns:List Int}(h:∀(j:Nat) (n:Int),ns[j]?=some n->arr[j]?=some (Value.int k n)):arr.toList.take ns.length=eT k ns:=by
 apply List.ext_getElem?;intro j
 by_cases hj:j<ns.length
 ·rw[bNG hj];have:=h j ns[j] (bNR hj);simp only[eT,bNF,bNR hj,bNO];simpa using this
 ·rw[bOX (by simp;omega),bOX (by simp[eT];omega)]
theorem nF(z:Array Value)(n:Nat):(Builtin.zeroCells z n).size=n*z.size:=by simp[Builtin.zeroCells]
theorem Hc(k:IntKind)(ns ms:List Int):eT k ns ++ eT k ms=eT k (ns ++ ms):=by simp[eT]
theorem vO{t e:TypeId}{ie:TypeInfo}{zv:Value}(ty:TypeId)(sM:P.underlying t=some (.slice e))(hi:P.info? e=some ie)(aEB:ie.zero=some zv)(Xl:zv.cells.size=ie.size)
  {g cap n m:Nat} {arr:Array Value} {news:List Value} (Zv:w.heap[g]?=some (.cells arr e (0,0))) (yO:n<=cap) (bBL:cap<=maxLen) (bFQ:cap*ie.size<=arr.size)
  (ad:Addr) (c0:Nat) (hl:news.length=m*ie.size) (Qp:∀(j:Nat) u,news[j]?=some u->w.cell? (ad.add j)=some u) (Na:∀v∈news,v.oneCell'=true) (tY:n+m<=maxLen) (Hj:(n+m)*ie.bytes<=140737488355328) :
  ∃g' Ka lY w',(Builtin.append_ #[t,t] ty #[.slice (some ⟨g,0,none⟩) n cap,.slice (some ad) m c0]).run P w=.ok (.slice (some ⟨g',0,none⟩) (n+m) Ka) w' /\
   w.grownBy w' (some g)/\w'.heap[g']?=some (.cells lY e (0,0))/\(g'=g\/w.heap.size<=g')/\Ka*ie.size<=lY.size/\n+m<=Ka/\Ka<=maxLen/\lY.toList.take ((n+m)*ie.size)=arr.toList.take (n*ie.size) ++ news:=by
 have h1:n*ie.size<=cap*ie.size:=bOO _ yO;have h2:(arr.toList.take (n*ie.size)).length=n*ie.size:=by simp;omega
 have h3:(arr.toList.take (n*ie.size) ++ news).length=(n+m)*ie.size:=by rw[bOE,h2,hl,bNV]
 by_cases hr:n+m<=cap
 ·have h4:(n+m)*ie.size<=cap*ie.size:=bOO _ hr;have h5:n*ie.size+news.length=(n+m)*ie.size:=by rw[hl,bNV]
  have fH:=run_append_room (P:=P) w t ty e ie sM hi g n cap arr Zv ad m c0 _ hl Qp Na hr (by omega);refine⟨g,cap,_,_,fH,⟨rfl,rfl,rfl,by simp,fun k _ hk=>setRow_other w g k _ (fun e=>hk (by rw[e]))⟩,setRow_heap w g arr _ e _ Zv,.inl rfl,?_,hr,bBL,?_⟩
  ·simp only[bOP,bOE,List.length_drop,h2,h5,Array.length_toList];omega
  ·rw[<-h3];exact bOQ
 ·have fH:=run_append_grow (P:=P) w t ty e ie zv sM hi aEB ⟨g,0,none⟩ n cap _ h2 (fun j v hj=>by
   have Zu:=aR hj;rw[bNG (by omega)]at hj;rw[jY,bND,cell_of_row w g j arr e (0,0) Zv];simpa using hj) ad m c0 _ hl Qp (by omega) (by unfold maxLen at tY;omega) (growslice_fits (by omega) Hj)
  have yS:=grownCap_ge w (n+m) cap e;have Nd:grownCap w (n+m) cap e<=maxLen:=grownCap_le_maxLen w _ _ e tY;refine⟨w.heap.size,_,_,_,fH,⟨rfl,rfl,rfl,by simp,fun k hk _=>uA w.drew _ hk⟩,heap_alloc_new w.drew _,.inr (bNB _),?_,yS,Nd,?_⟩
  ·simp only[Array.size_append,bOP,nF,Xl,h2,hl];rw[<-bNV,<-bNV];exact bOO _ (by omega)
  ·simp only[Array.toList_append];rw[<-h3];exact bOQ
theorem gX.drew(h:gX E X w0 ρ al fr hp a w):gX E X w0 ρ al fr hp a w.drew :=
 h.change ⟨bNB _,fun _ _ hx=>⟨rfl,hx⟩⟩ ⟨rfl,rfl,rfl,bNB _,fun _ _=>rfl,fun _ _=>rfl⟩
  (fun _ _=>⟨rfl,fun b' vT=>⟨b',vT,sameShape.refl _,rfl⟩⟩) (fun id b hb=>⟨(h.blk id b hb).1,(h.blk id b hb).2.later ⟨bNB _,fun _ _ hx=>⟨rfl,hx⟩⟩ rfl⟩) h.inj (fun _ h=>h) h.alh
theorem vJ.front{Y:Nat->Prop}{cs:List S}{arr:Array Value}(h:vJ Y w (.cells cs) arr):gI Y w cs (arr.toList.take cs.length) :=
 ⟨by have:=h.1;simp;omega,fun i s u hs hu=>by
  obtain⟨u',Mx,hr⟩:=h.2 i s hs;rw[bNG (aR hs)]at hu;have:u=u':=by simp at hu;rw[hu]at Mx;exact Option.some.inj Mx
  exact this▸hr⟩
theorem vJ.Qc{Y:Nat->Prop}{cs:List S}{arr:Array Value}(h:gI Y w cs (arr.toList.take cs.length)):vJ Y w (.cells cs) arr :=
 ⟨by have:=h.1;simp at this;omega,fun i s hs=>by
  have iN:=aR hs;obtain⟨u,hu⟩:=aY (l:=arr.toList.take cs.length) (i:=i) (by rw[<-h.1];exact iN);refine⟨u,?_,h.2 i s u hs hu⟩;rw[bNG iN]at hu;simpa using hu⟩
theorem gI.append{Y:Nat->Prop}{cs ds:List S}{vs us:List Value}(h:gI Y w cs vs)(h':gI Y w ds us):gI Y w (cs ++ ds) (vs ++ us) :=
 ⟨by simp[h.1,h'.1],fun i s u hs hu=>by
  by_cases hi:i<cs.length
  ·rw[bOM hi]at hs;rw[bOM (by rw[<-h.1];exact hi)]at hu;exact h.2 i s u hs hu
  ·rw[bON (by omega)]at hs;rw[bON (by rw[<-h.1];omega),<-h.1]at hu;exact h'.2 _ s u hs hu⟩
theorem Nt(h:gX E X w0 ρ al fr hp a w)(hd:hI E.nt o=true)(tZ:∀j,j<8->¬al (id+j)){t e:TypeId}{te:TI}(sM:P.underlying t=some (.slice e))(Jb:xJ P e te){y z:Operand}(ho:o.op=.call ⟨.builtin .append,#[y,z],#[t,t]⟩)
  (he:nO E.n0 id e te (evA E fr y) (evA E fr z) hp (fun a u=>some (a,u))=some (x,u)):iE P E X w0 al fr hp a w o id x u:=by
 obtain⟨ie,hi,pY,aMX,zv,aEB,Jn⟩:=Jb.i;have Xl:zv.cells.size=ie.size:=by
  have h1:=Jb.zl;rw[<-Jn]at h1;rw[pY,<-h1];simp
 have qA:∀n,∀i∈refs (.v (.one (.buf id n))),mB al id i:=by
  intro n i hi;simp only[refs,refsV,refsL,bNS]at hi;subst hi;exact oM i
 have hy:=(h.ev y).1;have hz:=(h.ev z).1;unfold nO at he;split at he
 ·rename_i j m bBA;rw[bBA]at hz;obtain⟨aWG,aZO,_,_,_⟩:=hz;split at he
  ·rename_i ej new bLE;obtain⟨_,Oe,bKN,bBN⟩:=h.blk j _ bLE;split at he
   ·rename_i hm;obtain⟨aRG,aUM⟩:=hm;have aPD:=bBN.front;have bAP:(Oe.toList.take new.length).length=m*ie.size:=by rw[<-aPD.1,aUM,pY]
    have Qp:∀(k:Nat) v,(Oe.toList.take new.length)[k]?=some v->w.cell? ((⟨ρ j,0,none⟩:Addr).add k)=some v:=by
     intro k v hk;have aOY:=aR hk;rw[bNG (by rw[<-aPD.1]at aOY;exact aOY)]at hk;rw[jY,bND,cell_of_row w (ρ j) k Oe _ (0,0) bKN];simpa using hk
    have Na:∀v∈Oe.toList.take new.length,v.oneCell'=true:=by
     intro v hv;obtain⟨k,hk⟩:=bNZ hv;obtain⟨s,hs⟩:=aY (l:=new) (i:=k) (by rw[aPD.1];exact aR hk);exact(aPD.2 k s v hs hk).one
    split at he
    ·
     rename_i i n aPE;rw[aPE]at hy;obtain⟨cap,hv,yO,_,aMW⟩:=hy;split at he
     ·rename_i e' cs bBQ;split at he
      ·rename_i hk;obtain⟨rfl,Eo,hn,aBL,vR,aKE⟩:=hk;obtain⟨e1,e2⟩:=Prod.mk.inj (Option.some.inj he);rw[<-e1,<-e2];obtain⟨sz,h5,h6,h7⟩:=aMW _ cs bBQ rfl;have bJB:sz=ie.size:=by rw[pY];exact Nat.eq_of_mul_eq_mul_left hn (by rw[<-h5,aBL])
       subst bJB;obtain⟨_,arr,Zv,bLB⟩:=h.blk i _ bBQ;rw[jD Zv]at h6;have aXO:=bLB.front;obtain⟨g',Ka,lY,w',fH,hg,aVD,aPC,oB,Zt,Nd,aXF⟩:=vO (P:=P) o.type sM hi aEB Xl Zv yO h7 h6 ⟨ρ j,0,none⟩ aWG bAP Qp Na (by unfold maxLen;omega) (by rw[aMX];omega);have hlen:(cs ++ new).length=(n+m)*ie.size:=by rw[bOE,aBL,aUM,pY,bNV]
       have h1:=h.Rx (id:=id) (c2:=.cells (cs ++ new)) bBQ Eo (tZ 0 (by omega)) hg aVD aPC (fun X' hl=>vJ.Qc (by
        rw[hlen,aXF];refine gI.append (gI.later hl ?_) (gI.later hl aPD);rw[h5]at aXO;exact aXO))
       refine⟨_,.slice (some ⟨g',0,none⟩) (n+m) Ka,w',.inl (jI ho (f:=Builtin.append_) (fun _ _=>rfl) ?_),h1.pure hd (x:=.v (.one (.buf id (n+m)))) ?_ (qA _)⟩
       ·simp only[bNW,bNA,bNT,hv,aZO];exact fH
       ·refine⟨Ka,by rw[bD],Zt,fun blk k1 Sn aAA Ep=>?_,fun blk bMR aAA Ep=>?_⟩
        ·simp only[applyUps]at aAA;rw[bD]at aAA;cases aAA;cases Ep
        ·simp only[applyUps]at aAA;rw[bD]at aAA;cases aAA;cases Ep;exact⟨ie.size,hlen,by rw[bD,jD aVD];exact oB,Nd⟩
      ·cases he
     ·cases he
    ·
     rename_i aPE;rw[aPE]at hy;have hv:a.eval y=.slice none 0 0:=hy.1;split at he
     ·rename_i hk;obtain⟨vR,aKE⟩:=hk;obtain⟨e1,e2⟩:=Prod.mk.inj (Option.some.inj he);rw[<-e1,<-e2];have fH:=run_append_nil (P:=P) w t o.type e ie zv sM hi aEB ⟨ρ j,0,none⟩ m aWG _ bAP Qp aRG (by omega) (by rw[aMX];omega);have yS:=grownCap_ge w m 0 e;have Nd:grownCap w m 0 e<=maxLen:=grownCap_le_maxLen w _ _ e (by unfold maxLen;omega);have aTV:((Oe.toList.take new.length).toArray ++ Builtin.zeroCells zv.cells (grownCap w m 0 e-m)).size=grownCap w m 0 e*ie.size:=by
       simp only[Array.size_append,bOP,nF,Xl,bAP];rw[<-bNV];congr 1;omega
      have h1:=h.drew.alloc (id:=id) (al':=mB al id) (tZ 0 (by omega)) (fun _ h=>.inl h) (oM id) e (.cells new) ((Oe.toList.take new.length).toArray ++ Builtin.zeroCells zv.cells (grownCap w m 0 e-m)) (by
       refine vJ.Qc ?_;have e3:((Oe.toList.take new.length).toArray ++ Builtin.zeroCells zv.cells (grownCap w m 0 e-m)).toList.take new.length=Oe.toList.take new.length:=by
        have hq:=aPD.1;generalize Oe.toList.take new.length=L at hq ⊢;rw[Array.toList_append,hq];exact bOQ
       rw[e3];exact gI.later ⟨bNB _,fun _ _ hx=>⟨rfl,hx⟩⟩ aPD)
      refine⟨_,.slice (some ⟨w.heap.size,0,none⟩) m (grownCap w m 0 e),_,.inl (jI ho (f:=Builtin.append_) (fun _ _=>rfl) ?_),h1.pure hd (x:=.v (.one (.buf id m))) ?_ (qA _)⟩
      ·simp only[bNW,bNA,bNT,hv,aZO];exact fH
      ·refine⟨_,by rw[bD];rfl,yS,fun blk k1 Sn aAA Ep=>?_,fun blk bMR aAA Ep=>?_⟩
       ·rw[bD]at aAA;cases aAA;cases Ep
       ·rw[bD]at aAA;cases aAA;cases Ep;refine⟨ie.size,by rw[aUM,pY],?_,Nd⟩;rw[bD,jD (uB w.drew _),aTV];exact bNB _
     ·cases he
    ·cases he
   ·cases he
  ·cases he
 ·cases he
theorem Uq(h:gX E X w0 ρ al fr hp a w)(hd:hI E.nt o=true)(hT:mJ P E.T)(tZ:∀j,j<8->¬al (id+j)){args:Array Operand}{uL:Array TypeId}(ho:o.op=.call ⟨.builtin .append,args,uL⟩)(he:oZ E id o (evA E fr) hp=some (x,u)):iE P E X w0 al fr hp a w o id x u:=by
 obtain⟨args⟩:=args;obtain⟨uL⟩:=uL;unfold oZ effK at he;rw[ho]at he;simp only[builtinK]at he
 match args,uL,he with
 | [y,z],[t,t'],he =>
  simp only[bNA,bNT]at he;split at he
  ·rename_i bJA;subst bJA;split at he
   ·rename_i s0 b0 z0 e uM;obtain⟨d,sM,zS⟩:=(hT t _ uM).d;have zS:d=.slice e:=zS;subst zS;split at he
    ·rename_i bytes zero k Jb;have Hd:=hT e _ Jb;obtain⟨ie,hi,pY,aMX,zv,aEB,Jn⟩:=Hd.i;have pY:ie.size=1:=pY;have aMX:ie.bytes=bytes:=aMX;have Xl:zv.cells.size=1:=by
      have h1:zero.length=1:=Hd.zl;have h2:zv.cells.toList=zero:=Jn;rw[<-h2]at h1;simpa using h1
     have qA:∀i∈refs (.v (.one (.buf id 0))),mB al id i:=by
      intro i hi;simp only[refs,refsV,refsL,bNS]at hi;subst hi;exact oM i
     split at he
     ·rename_i hb8;have hy:=(h.ev y).1;split at he
      ·
       rename_i i n ms gV aJY;rw[gV]at hy;obtain⟨cap,hv,yO,hc,_⟩:=hy;split at he
       ·rename_i e' k' ns hb;cases Cu:bNM i E.n0 with
        |true=>rw[Cu]at he;cases he
        |false =>
        rw[Cu]at he;simp only[cond_false]at he;have Cu:E.n0<=i:=by
         have:¬i<E.n0:=fun h=>by
          have h2:bNM i E.n0=true:=by rw[Nat.blt_eq];exact h
          rw[h2]at Cu;cases Cu
         omega
        split at he
        ·rename_i bKW;obtain⟨rfl,rfl⟩:=bKW;split at he
         ·rename_i tY;obtain⟨oO,tY⟩:=tY;obtain⟨e1,e2⟩:=Prod.mk.inj (Option.some.inj he);rw[<-e1,<-e2];obtain⟨hn,bBL,bFQ⟩:=hc _ k ns hb rfl;subst hn;obtain⟨Hk,arr,Zv,aBL,bBO⟩:=h.blk i _ hb;rw[jD Zv]at bFQ;obtain⟨A0,c0,Zq,iF⟩:=qW h aJY;obtain⟨ad,hA,_⟩:=iF 0 ms[0] (bNR oO);subst hA;obtain⟨g',Ka,lY,w',fH,hg,aVD,aPC,oB,Zt,Nd,aXF⟩:=vO (P:=P) (m:=ms.length) (news:=eT k ms) o.type sM hi aEB (by omega) Zv yO bBL (by rw[pY];omega) ad c0 (by simp[eT,pY]) (fun j v hj=>by
           simp only[eT,bNF,bOF]at hj;obtain⟨m,hm,rfl⟩:=hj;obtain⟨bGT,e1,e2⟩:=iF j m hm;cases e1;exact e2) (Dy k ms) (by unfold maxLen;unfold room at tY;omega) (by
           have:(ns.length+ms.length)*ie.bytes<=(ns.length+ms.length)*8:=bPP _ (by omega);unfold room at tY;omega)
          rw[pY,bNL]at oB;rw[pY,bNL,bNL,Jh bBO,Hc,<-bOE]at aXF;have h1:=h.Rx (id:=id) (c2:=.ints k (ns ++ ms)) hb Cu (tZ 0 (by omega)) hg aVD aPC (fun _ _=>⟨by simp;omega,Jz aXF⟩);refine⟨_,.slice (some ⟨g',0,none⟩) (ns.length+ms.length) Ka,w',.inl (jI ho (f:=Builtin.append_) (fun _ _=>rfl) ?_),h1.pure hd (x:=.v (.one (.buf id (ns.length+ms.length)))) ?_ qA⟩
          ·simp only[bNW,bNA,bNT,hv,Zq];exact fH
          ·refine⟨Ka,by rw[bD],Zt,fun blk k1 Sn vR Ep=>?_,fun blk cs vR Ep=>by simp only[applyUps]at vR;rw[bD]at vR;cases vR;cases Ep⟩;simp only[applyUps]at vR;rw[bD]at vR;cases vR;cases Ep;refine⟨by simp,Nd,?_⟩;rw[bD,jD aVD];exact oB
         ·cases he
        ·cases he
       ·cases he
      ·
       rename_i ms gV aJY;rw[gV]at hy;have hv:a.eval y=.slice none 0 0:=hy.1;split at he
       ·rename_i tY;obtain⟨oO,tY⟩:=tY;obtain⟨e1,e2⟩:=Prod.mk.inj (Option.some.inj he);rw[<-e1,<-e2];obtain⟨A0,c0,Zq,iF⟩:=qW h aJY;obtain⟨ad,hA,_⟩:=iF 0 ms[0] (bNR oO);subst hA;have hl:(eT k ms).length=ms.length*ie.size:=by simp[eT,pY]
        have Hj:ms.length*ie.bytes<=281474976710656:=by
         have:ms.length*ie.bytes<=ms.length*8:=bPP _ (by omega);unfold room at tY;omega
        have fH:=run_append_nil (P:=P) w t o.type e ie zv sM hi aEB ad ms.length c0 (eT k ms) hl (fun j v hj=>by
         simp only[eT,bNF,bOF]at hj;obtain⟨m,hm,rfl⟩:=hj;obtain⟨bGT,e1,e2⟩:=iF j m hm;cases e1;exact e2) oO (by unfold room at tY;omega) Hj
        have yS:=grownCap_ge w ms.length 0 e;have Nd:grownCap w ms.length 0 e<=maxLen:=grownCap_le_maxLen w _ _ e (by unfold maxLen;unfold room at tY;omega);have h1:=h.drew.alloc (id:=id) (al':=mB al id) (tZ 0 (by omega)) (fun _ h=>.inl h) (oM id) e (.ints k ms) ((eT k ms).toArray ++ Builtin.zeroCells zv.cells (grownCap w ms.length 0 e-ms.length)) (by
         refine⟨by simp[eT,nF,Xl,bNL],fun j n hn=>?_⟩;have hj:=aR hn;rw[Array.getElem?_append_left (by simp[eT];omega)];simp[eT,hn])
        refine⟨_,.slice (some ⟨w.heap.size,0,none⟩) ms.length (grownCap w ms.length 0 e),_,.inl (jI ho (f:=Builtin.append_) (fun _ _=>rfl) ?_),h1.pure hd (x:=.v (.one (.buf id ms.length))) ?_ qA⟩
        ·simp only[bNW,bNA,bNT,hv,Zq];exact fH
        ·refine⟨_,by rw[bD];rfl,yS,fun blk k1 Sn vR Ep=>?_,fun blk cs vR Ep=>by rw[bD]at vR;cases vR;cases Ep⟩;rw[bD]at vR;cases vR;cases Ep;refine⟨rfl,Nd,?_⟩;rw[bD,jD (uB w.drew _)];simp only[Array.size_append,bOP,nF,Xl,bNL];simp[eT];omega
       ·cases he
      ·cases he
     ·cases he
    ·rename_i te _ Jb;exact Nt h hd tZ sM (hT e _ Jb) ho he
    ·cases he
   ·cases he
  ·cases he
 | [],_,he=>simp at he
 | [_],_,he=>simp at he
 |_ :: _ :: _ :: _,_,he=>simp at he
 | [_,_],[],he=>simp at he
 | [_,_],[_],he=>simp at he
 | [_,_],_ :: _ :: _ :: _,he=>simp at he
theorem Pl{α:Type}(f:Nat->α)(i:Nat)(b:α)(h:f i=b):xU f i b=f:=by
 funext j
 by_cases hj:j=i
 ·subst hj;rw[bD,h]
 ·rw[eK _ _ hj]
theorem Lg(h:gX E X w0 ρ al fr hp a w){t t' e:TypeId}{bytes:Nat}{zero:List Value}{k:IntKind}(ty:TypeId)(sM:P.underlying t=some (.slice e))(Jb:xJ P e ⟨1,bytes,zero,.int k⟩)
  {i off n dcap:Nat} {e':TypeId} {ns ms:List Int} (hb:hp i=some ⟨e',.ints k ns⟩) (hle:off+n<=ns.length) (Ad:Option Addr) (hA:0<n->Ad=some ⟨ρ i,off,none⟩)
  (As:Option Addr) (sc:Nat) (iF:∀(j:Nat) (m:Int),ms[j]?=some m->∃ad,As=some ad/\w.cell? (ad.add j)=some (.int k m)) :
  ∃w',(Builtin.copy_ #[t,t'] ty #[.slice Ad n dcap,.slice As ms.length sc]).run P w=.ok (.int .i64 (min ms.length n:Nat)) w' /\
   gX E X w0 ρ al fr (xU hp i (some ⟨e',.ints k (ns.take off ++ (ms.take n ++ ns.drop (off+min ms.length n)))⟩)) a w':=by
 obtain⟨ie,hi,pY,_⟩:=Jb.i;have pY:ie.size=1:=pY;have Sr:(P.info? e).map (·.size)=some 1:=by simp[hi,pY]
 obtain⟨_,arr,Zv,aBL,bBO⟩:=h.blk i _ hb
 by_cases h0:min ms.length n=0
 ·refine⟨w,?_,?_⟩
  ·have:=run_copy_none (P:=P) w t t' ty e Ad As n dcap ms.length sc sM Sr h0;rw[this,h0];rfl
  ·have hc:ns.take off ++ (ms.take n ++ ns.drop (off+min ms.length n))=ns:=by
    have:ms.take n=[]:=by
     apply bPQ;rw[bPR];omega
    rw[this,h0];simp
   rw[hc,Pl _ _ _ hb];exact h
 ·have hn:0<n:=by omega
  have hm:0<ms.length:=by omega
  have hA:=hA hn;subst hA;obtain⟨ad,rfl,_⟩:=iF 0 ms[0] (bNR hm);have hlen:(eT k (ms.take n)).length=min ms.length n:=by rw[eT,bOU,bPR];omega
  have fH:=run_copy_row (P:=P) w t t' ty e (ρ i) off n dcap ad ms.length sc arr e' (eT k (ms.take n)) sM Sr Zv hlen (fun j v hj=>by
   simp only[eT,bNF,bOF]at hj;obtain⟨m,hm,rfl⟩:=hj;have Ui:j<n:=by have:=aR hm;simp at this;omega
   rw[bNG Ui]at hm;obtain⟨bGT,e1,e2⟩:=iF j m hm;cases e1;exact e2) (by rw[hlen];have:ns.length<=arr.size:=aBL;omega) (Dy k _)
  rw[hlen]at fH;refine⟨_,fH,?_⟩;have aBL:ns.length<=arr.size:=aBL;refine h.setRow hb _ _ ⟨fun k1 Sn e1=>?_,fun Hu e1=>by cases e1⟩ ?_ ?_
  ·cases e1;exact⟨k,ns,rfl,by simp;omega⟩
  ·rw[jD Zv];simp[hlen];omega
  ·refine⟨by simp[hlen];omega,fun j m hj=>?_⟩;have iN:(ms.take n).length=min ms.length n:=by simp;omega
   rw[<-iN,List.oG ns (ms.take n) off j (by rw[iN];omega)]at hj;have e1:(arr.toList.take off ++ eT k (ms.take n) ++ arr.toList.drop (off+min ms.length n)).toArray[j]?=(arr.toList.take off ++ (eT k (ms.take n) ++ arr.toList.drop (off+(eT k (ms.take n)).length)))[j]?:=by
    rw[hlen];simp[bOW]
   rw[e1,List.oG _ _ _ _ (by rw[hlen];simp;omega),hlen];rw[iN]at hj
   by_cases Je:off<=j/\j<off+min ms.length n
   ·rw[if_pos Je]at hj ⊢;simp only[eT,bNF,hj,bNO]
   ·rw[if_neg Je]at hj ⊢;simpa using bBO j m hj
theorem aFX(h:gX E X w0 ρ al fr hp a w)(hd:hI E.nt o=true)(hT:mJ P E.T){args:Array Operand}{uL:Array TypeId}(ho:o.op=.call ⟨.builtin .copy,args,uL⟩)(he:oZ E id o (evA E fr) hp=some (x,u)):iE P E X w0 al fr hp a w o id x u:=by
 obtain⟨args⟩:=args;obtain⟨uL⟩:=uL;unfold oZ effK at he;rw[ho]at he;simp only[builtinK]at he
 match args,uL,he with
 | [y,z],[t,t'],he =>
  simp only[bNA,bNT]at he;split at he
  ·rename_i s0 b0 z0 e uM;obtain⟨d,sM,zS⟩:=(hT t _ uM).d;have zS:d=.slice e:=zS;subst zS;split at he
   ·rename_i bytes zero k Jb;have Hd:=hT e _ Jb;have hy:=(h.ev y).1;have fin:∀{i:Nat} {e':TypeId} {k':IntKind} {ns cs:List Int} {n:Nat},(∃w',(Builtin.copy_ #[t,t'] o.type (#[y,z].map a.eval)).run P w=.ok (.int .i64 n) w'/\gX E X w0 ρ al fr (xU hp i (some ⟨e',.ints k cs⟩)) a w') ->
      iE P E X w0 al fr hp a w o id (yN (.int .i64 n)) [(i,some ⟨e',.ints k cs⟩)]:=by
     intro i e' k' ns cs n hw;obtain⟨w',h1,h2⟩:=hw;exact⟨ρ,_,w',.inl (jI ho (f:=Builtin.copy_) (fun _ _=>rfl) h1),(h2.more id).pure hd ⟨rfl,rfl⟩ (by simp[kT])⟩
    split at he
    ·rename_i i n ms gV aJY;rw[gV]at hy;obtain⟨cap,hv,yO,hc,_⟩:=hy;split at he
     ·rename_i e' k' ns hb;split at he
      ·rename_i hk;subst hk;obtain⟨e1,e2⟩:=Prod.mk.inj (Option.some.inj he);rw[<-e1,<-e2];obtain⟨hn,_⟩:=hc _ k ns hb rfl;obtain⟨A0,c0,Zq,iF⟩:=qW h aJY;have:=Lg (P:=P) h (t':=t') (off:=0) (n:=n) (dcap:=cap) o.type sM Hd hb (by omega) (some ⟨ρ i,0,none⟩) (fun _=>rfl) A0 c0 iF;simp only[List.take_zero,List.nil_append,bND]at this;refine fin (k':=k) (ns:=ns) ?_;simp only[bNW,bNA,bNT,hv,Zq];exact this
      ·cases he
     ·cases he
    ·rename_i i off n ms gV aJY;rw[gV]at hy;obtain⟨Ad,cap,hv,yO,hA,hc⟩:=tN hy;split at he
     ·rename_i e' k' ns hb;split at he
      ·rename_i hk;obtain⟨rfl,hle⟩:=hk;obtain⟨e1,e2⟩:=Prod.mk.inj (Option.some.inj he);rw[<-e1,<-e2];obtain⟨A0,c0,Zq,iF⟩:=qW h aJY;have:=Lg (P:=P) h (t':=t') (off:=off) (n:=n) (dcap:=cap) o.type sM Hd hb hle Ad hA A0 c0 iF;refine fin (k':=k) (ns:=ns) ?_;simp only[bNW,bNA,bNT,hv,Zq];exact this
      ·cases he
     ·cases he
    ·cases he
   ·cases he
  ·cases he
 | [],_,he=>simp at he
 | [_],_,he=>simp at he
 |_ :: _ :: _ :: _,_,he=>simp at he
 | [_,_],[],he=>simp at he
 | [_,_],[_],he=>simp at he
 | [_,_],_ :: _ :: _ :: _,he=>simp at he
def lL(Y:Nat->Prop)(w:World):D->Value->Prop
 | .s x,v=>nC Y w x v
 | .rows sz n f,v=>∃A c,v=.slice A n c/\n<=c/\∀i,i<n->(f i).length=sz/\∃b off,A=some ⟨b,off,none⟩/\rI Y w b (off+i*sz) (f i)
 | .agg cs,v=>∃arr,v=.agg arr/\gI Y w cs arr.toList
 | .own _ k ns,v=>nC Y w (.ints k ns) v
 | .io _ _ _ _ _,_=>False
 | .back _ _ _,_=>False
def Lp(base:Nat)(w:World)(g:Nat)(e:TypeId)(k:IntKind)(ns:List Int)(v:Value):Prop :=
 ∃arr cap,v=.slice (some ⟨g,0,none⟩) ns.length cap/\base<=g/\w.heap[g]?=some (.cells arr e (0,0))/\ns.length<=cap/\cap<=arr.size/\cap<=maxLen/\∀(j:Nat) (n:Int),ns[j]?=some n->arr[j]?=some (Value.int k n)
def iY:D->Bool
 | .own _ _ _=>true
 |_=>false
def Vl(Y:Nat->Prop)(base:Nat)(w:World)(rs:List D)(vs:List Value):Prop :=
 ∃g:Nat->Nat,rs.length=vs.length/\(∀(i j:Nat) (d d':D),rs[i]?=some d->rs[j]?=some d'->iY d=true->iY d'=true->g i=g j->i=j) /\
  ∀(i:Nat) (d:D) (v:Value),rs[i]?=some d->vs[i]?=some v->match d with
   | .own e k ns=>Lp base w (g i) e k ns v
   |d=>lL (fun b=>Y b\/∃(j:Nat) (d':D),rs[j]?=some d'/\iY d'=true/\g j=b) w d v
def resV:List Value->Value
 | [v]=>v
 |vs=>.tuple vs.toArray
def Contract(P:Program)(glob:Nat->Option (IntKind×List Int))(f:FuncId)(ds rs:List D):Prop :=
 ∀(Y:Nat->Prop) (w:World) (vs:List Value),(∀b,Y b->b<w.heap.size)->GlobOk glob Y w->ds.length=vs.length ->
  (∀(i:Nat) (d:D) (v:Value),ds[i]?=some d->vs[i]?=some v->lL Y w d v) ->
  Calls P f vs.toArray w fun e w'=>∃vL,e=.returned (resV vL)/\Below w.heap.size w w'/\Vl Y w.heap.size w' rs vL
def Vh(w:World)(g len off n:Nat)(v:Value):Prop :=
 ∃o' cap,v=.slice (some ⟨g,o',none⟩) n cap/\n<=cap/\(0<n->o'=off)/\(off=0->o'=0)/\off+n<=len/\cap<=maxLen/\cap<=jR w g
def aQX(w:World)(g:Nat)(e:TypeId)(k:IntKind)(ns:List Int)(off n:Nat)(v:Value):Prop :=
 Vh w g ns.length off n v/\Bl (fun _=>False) w g ⟨e,.ints k ns⟩
def Ap:D->Bool
 | .io _ _ _ _ _=>true
 |_=>false
def Yu(Y:Nat->Prop)(w:World)(g:Nat->Nat)(i:Nat)(v:Value):D->Prop
 | .io e k ns off n=>Y (g i)/\aQX w (g i) e k ns off n v
 |d=>lL Y w d v
def Pd(w:World)(b:Nat):D->Prop
 | .io e k ns _ _=>Bl (fun _=>False) w b ⟨e,.ints k ns⟩
 |_=>False
structure zM(M:Nat->Prop)(w w':World):Prop where
 os:w'.os=w.os
 tape:w'.tape=w.tape
 output:w'.output=w.output
 size:w.heap.size<=w'.heap.size
 block:∀b,b<w.heap.size->¬M b->w'.heap[b]?=w.heap[b]?
 room:∀b,M b->jR w' b=jR w b
def zG(ps:List Nat)(g:Nat->Nat)(b:Nat):Prop:=∃i,i∈ps/\g i=b
def aNG(ps:List Nat)(ds js:List D):Prop :=
 ∀(j i:Nat),ps[j]?=some i->∃e k ns off n e' k' lC,ds[i]?=some (.io e k ns off n)/\js[j]?=some (.io e' k' lC 0 0)/\lC.length=ns.length
def bDG(Y:Nat->Prop)(base:Nat)(w:World)(ps:List Nat)(js:List D)(g0:Nat->Nat)(gi:Nat)(v:Value):D->Prop
 | .own e k ns=>Lp base w gi e k ns v
 | .back p off n=>∃(j:Nat) (e:TypeId) (k:IntKind) (ns:List Int),ps[j]?=some p/\js[j]?=some (.io e k ns 0 0)/\Vh w (g0 p) ns.length off n v
 |d=>lL Y w d v
def Oq(Y:Nat->Prop)(base:Nat)(w:World)(ps:List Nat)(js:List D)(g0:Nat->Nat)(rs:List D)(vs:List Value):Prop :=
 ∃g:Nat->Nat,rs.length=vs.length/\(∀(i j:Nat) (d d':D),rs[i]?=some d->rs[j]?=some d'->iY d=true->iY d'=true->g i=g j->i=j) /\
  ∀(i:Nat) (d:D) (v:Value),rs[i]?=some d->vs[i]?=some v->bDG (fun b=>Y b\/∃(j:Nat) (d':D),rs[j]?=some d'/\iY d'=true/\g j=b) base w ps js g0 (g i) v d
structure mV(P:Program)(glob:Nat->Option (IntKind×List Int))(f:FuncId)(ps:List Nat)(ds rs js:List D):Prop where
 len:js.length=ps.length
 io:aNG ps ds js
 run:∀(Y:Nat->Prop) (w:World) (vs:List Value) (g:Nat->Nat),(∀b,Y b->b<w.heap.size)->GlobOk glob Y w->ds.length=vs.length ->
  (∀(i:Nat) (d:D) (v:Value),ds[i]?=some d->vs[i]?=some v->Yu Y w g i v d)->(∀i j,i∈ps->j∈ps->g i=g j->i=j) ->
  Calls P f vs.toArray w fun e w'=>∃vL,e=.returned (resV vL)/\zM (zG ps g) w w'/\Oq Y w.heap.size w' ps js g rs vL/\∀(j i:Nat) (d:D),ps[j]?=some i->js[j]?=some d->Pd w' (g i) d
def tD(P:Program)(f:FuncId):Prop:=∀(vs:Array Value) (w:World),(callFunc f vs).run P w=.ok (.enter f vs) w
structure iW(P:Program)(E:Env):Prop where
 c:∀f ds g rs,E.ioF f=[]->E.C f ds=some (g,rs)->g->Contract P E.glob f ds rs/\tD P f
 i:∀f p ps ds g rs,E.ioF f=p :: ps->E.C f ds=some (g,rs)->g->∃Af js,rs=Af ++ js/\mV P E.glob f (p :: ps) ds Af js/\tD P f
 x:∀f vs g rs,E.ext f vs=some (g,rs)->g->(∀v∈rs,v.oneCell'=true)/\∀w,(callFunc f vs.toArray).run P w=.ok (.value (resV rs)) w
theorem lL.later{Y Y':Nat->Prop}{w w':World}(h:gB Y w Y' w'){d:D}{v:Value}(r:lL Y w d v):lL Y' w' d v:=by
 cases d with
 |s x=>exact nC.later h r
 |rows sz n f =>
  obtain⟨A0,c,hv,hle,hc⟩:=r;refine⟨A0,c,hv,hle,fun i hi=>?_⟩;obtain⟨hl,b,off,hA,Qw⟩:=hc i hi;exact⟨hl,b,off,hA,Qw.later h⟩
 |agg cs=>obtain⟨arr,hv,hr⟩:=r;exact⟨arr,hv,hr.later h⟩
 |own e k ns=>exact nC.later (s:=.ints k ns) h r
 |io=>exact r
 |back=>exact r
theorem nC.any{Y Y':Nat->Prop}{w w':World}{x:S}{v:Value}(hs:Ff x=false)(r:nC Y w x v):nC Y' w' x v:=by
 cases x with
 |sc u=>exact r
 |bot=>exact r
 |ints k ns=>cases hs
theorem lL.any{Y Y':Nat->Prop}{w w':World}{d:D}{v:Value}(hs:shares d=false)(ho:iY d=false)(r:lL Y w d v):lL Y' w' d v:=by
 cases d with
 |s x=>exact nC.any hs r
 |rows sz n f=>cases hs
 |agg cs =>
  obtain⟨arr,hv,hl,hr⟩:=r;refine⟨arr,hv,hl,fun i s u h1 h2=>(hr i s u h1 h2).any ?_⟩;have:=List.any_eq_false.1 (show cs.any Ff=false from hs) s (bNK h1);simpa using this
 |own e k ns=>cases ho
 |io=>exact r
 |back=>exact r
def Vc(args:List A):oC:=(args.flatMap refs).map fun i=>(i,none)
theorem Ru(args:List A):Cons (Vc args):=by
 intro p hp;obtain⟨i,_,rfl⟩:=List.mem_map.1 hp;rfl
theorem Bz(h:gX E X w0 ρ al fr hp a w){u:oC}(hu:Cons u){y:A}{v:Value}(hr:vK ρ hp (XO X ρ hp) w y v)(Je:∀i∈refs y,(i,none)∈u){d:D}(hd:toD hp y=some d):lL (XO X ρ (applyUps u hp)) w d v:=by
 have hl:gB (XO X ρ hp) w (XO X ρ (applyUps u hp)) w:=gB.cons hu;unfold toD at hd;split at hd
 ·cases hd;obtain⟨arr,hv,hs⟩:=hr;exact⟨arr,hv,hs.later hl⟩
 ·cases hd;exact nC.later hl hr
 ·cases hd;exact lL.later hl (d:=.rows _ _ _) hr
 ·rename_i i n;split at hd
  ·rename_i e k ns hb;cases hd;obtain⟨cap,hv,yO,hc,_⟩:=hr;obtain⟨hn,_⟩:=hc _ k ns hb rfl;subst hn;refine⟨_,cap,hv,yO,fun j m hj=>⟨ρ i,0,rfl,h.gZ hb,h.Qz hb hu (Je i (by simp[refs,refsV,refsL])),?_⟩⟩;rw[bND];exact h.vD hb hj
  ·rename_i e cs hb;split at hd
   ·rename_i hlen;cases hd;obtain⟨cap,hv,yO,_⟩:=hr;refine⟨_,cap,hv,yO,fun j hj=>?_⟩;have hle:(j+1)*(cs.length/n)<=n*(cs.length/n):=bOO _ hj;rw[bNV,Nat.one_mul]at hle;refine⟨by simp;omega,ρ i,0,rfl,fun m s hm=>?_⟩;have bAM:m<cs.length/n:=by
     have:=aR hm;simp at this;omega
    rw[bNG bAM,bNN]at hm;obtain⟨_,hB⟩:=h.blk i _ hb;obtain⟨arr,aKG,aVO⟩:=hB;obtain⟨aMP,Qw⟩:=aVO;obtain⟨u0,aTS,bJF⟩:=Qw _ _ hm;refine⟨h.gZ hb,h.Qz hb hu (Je i (by simp[refs,refsV,refsL])),u0,?_,nC.later hl bJF⟩;rw[cell_of_row w (ρ i) _ arr e (0,0) aKG,bND];exact aTS
   ·cases hd
  ·cases hd
 ·rename_i i off n;split at hd
  ·rename_i e k ns hb;cases hd;obtain⟨A0,cap,hv,yO,hA,hc⟩:=tN hr;have hle:=hc _ k ns hb rfl;have hlen:((ns.drop off).take n).length=n:=by simp;omega
   refine⟨A0,cap,by rw[hlen];exact hv,by rw[hlen];exact yO,fun j m hj=>?_⟩;have Ui:j<n:=by have:=aR hj;omega
   refine⟨ρ i,off,hA (by omega),h.gZ hb,h.Qz hb hu (Je i (by simp[refs,refsV,refsL])),?_⟩;rw[bNG Ui,bNN]at hj;exact h.vD hb hj
  ·cases hd
 ·cases hd
theorem gX.called(h:gX E X w0 ρ al fr hp a w){w':World}(hB:Below w.heap.size w w'){ρ':Nat->Nat}{hp':Nat->Option iM}{al':Nat->Prop}(pK:∀i,al i->al' i)
  (hold:∀i,al i->ρ' i=ρ i/\hp' i=hp i) (qA:∀i b,hp' i=some b->¬al i->al' i/\w.heap.size<=ρ' i/\∀Y,Bl Y w' (ρ' i) b)
  (xA:∀i j b c,hp' i=some b->hp' j=some c->¬al i->¬al j->ρ' i=ρ' j->i=j):gX E X w0 ρ' al' fr hp' a w'/\gB (XO X ρ hp) w (XO X ρ' hp') w':=by
 have Uj:Kept w0 w w':=⟨hB.os,hB.tape,hB.output,hB.size,fun b hb=>hB.block b (by have:=h.below.size;have:=Old.Qb hb;omega),fun b hb=>uE (hB.block b (by have:=h.below.size;have:=w0.aST b hb;omega))⟩;have hl:gB (XO X ρ hp) w (XO X ρ' hp') w':=by
  refine⟨hB.size,fun b hb hx=>⟨hB.block b hb,fun ho=>?_⟩⟩;rcases ho with ho |⟨i,bl,h1,h2⟩
  ·exact hx (.inl ho)
  ·by_cases hi:al i
   ·obtain⟨e1,e2⟩:=hold i hi;exact hx (.inr ⟨i,bl,by rw[<-e2];exact h1,by rw[<-e1];exact h2⟩)
   ·have:=(qA i bl h1 hi).2.1;omega
 refine⟨h.change hl Uj ?_ ?_ ?_ pK ?_,hl⟩
 ·intro i hi;obtain⟨e1,e2⟩:=hold i hi;refine⟨e1,fun b' vT=>?_⟩;rw[e2]at vT;refine⟨b',vT,sameShape.refl _,?_⟩;unfold jR;rw[hB.block _ (h.gZ vT)]
 ·intro i b hb
  by_cases hi:al i
  ·obtain⟨e1,e2⟩:=hold i hi;rw[e2]at hb;rw[e1];exact⟨(h.blk i b hb).1,(h.blk i b hb).2.later hl (hB.block _ (h.gZ hb))⟩
  ·obtain⟨_,h2,h3⟩:=qA i b hb hi;exact⟨.inl (bNX h.below.size h2),h3 _⟩
 ·intro i j b c hb hc e
  by_cases hi:al i
  ·obtain⟨e1,e2⟩:=hold i hi
   by_cases hj:al j
   ·obtain⟨e3,e4⟩:=hold j hj;rw[e2]at hb;rw[e4]at hc;rw[e1,e3]at e;exact h.inj i j b c hb hc e
   ·rw[e2]at hb;have:=h.gZ hb;have:=(qA j c hc hj).2.1;omega
  ·by_cases hj:al j
   ·obtain⟨e3,e4⟩:=hold j hj;rw[e4]at hc;have:=h.gZ hc;have:=(qA i b hb hi).2.1;omega
   ·exact xA i j b c hb hc hi hj e
 ·intro i b hb
  by_cases hi:al i
  ·exact pK i hi
  ·exact(qA i b hb hi).1
theorem gX.aGT(h:gX E X w0 ρ al fr hp a w){w':World}{M:Nat->Prop}(hB:zM M w w')(hM:∀b,M b->aIM ρ hp b){ρ':Nat->Nat}{hp':Nat->Option iM}{al':Nat->Prop}(pK:∀i,al i->al' i)
  (hρ:∀i,al i->ρ' i=ρ i)
  (hold:∀i b',al i->hp' i=some b'->(¬M (ρ i)/\hp i=some b')\/(M (ρ i)/\∃b,hp i=some b/\sameShape b b'/\∀Y,Bl Y w' (ρ i) b'))
  (qA:∀i b,hp' i=some b->¬al i->al' i/\w.heap.size<=ρ' i/\∀Y,Bl Y w' (ρ' i) b)
  (xA:∀i j b c,hp' i=some b->hp' j=some c->¬al i->¬al j->ρ' i=ρ' j->i=j):gX E X w0 ρ' al' fr hp' a w'/\gB (XO X ρ hp) w (XO X ρ' hp') w':=by
 have aUN:∀b,M b->w0.Em b:=fun b hb=>by
  obtain⟨id,bl,h1,rfl⟩:=hM b hb;exact(h.blk id bl h1).1.Em
 have Uj:Kept w0 w w':=⟨hB.os,hB.tape,hB.output,hB.size,fun b hb=>hB.block b (by have:=h.below.size;have:=Old.Qb hb;omega) (fun hm=>hb (aUN b hm)),fun b hb=>by
  by_cases hm:M b
  ·exact hB.room b hm
  ·exact uE (hB.block b (by have:=h.below.size;have:=w0.aST b hb;omega) hm)⟩
 have Qt:∀i b',al i->hp' i=some b'->∃b,hp i=some b/\sameShape b b':=by
  intro i b' hi hb;rcases hold i b' hi hb with ⟨_,h2⟩ |⟨_,b,h2,h3,_⟩
  ·exact⟨b',h2,sameShape.refl _⟩
  ·exact⟨b,h2,h3⟩
 have hl:gB (XO X ρ hp) w (XO X ρ' hp') w':=by
  refine⟨hB.size,fun b hb hx=>⟨hB.block b hb (fun hm=>hx (.inr (hM b hm))),fun ho=>?_⟩⟩;rcases ho with ho |⟨i,bl,h1,h2⟩
  ·exact hx (.inl ho)
  ·by_cases hi:al i
   ·obtain⟨b0,h3,_⟩:=Qt i bl hi h1;exact hx (.inr ⟨i,b0,h3,by rw[<-hρ i hi];exact h2⟩)
   ·have:=(qA i bl h1 hi).2.1;omega
 have pY:∀i b,al i->hp i=some b->jR w' (ρ i)=jR w (ρ i):=by
  intro i b hi hb
  by_cases hm:M (ρ i)
  ·exact hB.room _ hm
  ·exact uE (hB.block _ (h.gZ hb) hm)
 refine⟨h.change hl Uj ?_ ?_ ?_ pK ?_,hl⟩
 ·intro i hi;refine⟨hρ i hi,fun b' vT=>?_⟩;obtain⟨b,h2,h3⟩:=Qt i b' hi vT;exact⟨b,h2,h3,pY i b hi h2⟩
 ·intro i b hb
  by_cases hi:al i
  ·rw[hρ i hi];rcases hold i b hi hb with ⟨hm,h2⟩ |⟨_,b0,h2,_,h4⟩
   ·exact⟨(h.blk i b h2).1,(h.blk i b h2).2.later hl (hB.block _ (h.gZ h2) hm)⟩
   ·exact⟨(h.blk i b0 h2).1,h4 _⟩
  ·obtain⟨_,h2,h3⟩:=qA i b hb hi;exact⟨.inl (bNX h.below.size h2),h3 _⟩
 ·intro i j b c hb hc e
  by_cases hi:al i
  ·obtain⟨b0,h1,_⟩:=Qt i b hi hb
   by_cases hj:al j
   ·obtain⟨c0,h2,_⟩:=Qt j c hj hc;rw[hρ i hi,hρ j hj]at e;exact h.inj i j b0 c0 h1 h2 e
   ·rw[hρ i hi]at e;have:=h.gZ h1;have:=(qA j c hc hj).2.1;omega
  ·by_cases hj:al j
   ·obtain⟨c0,h2,_⟩:=Qt j c hj hc;rw[hρ j hj]at e;have:=h.gZ h2;have:=(qA i b hb hi).2.1;omega
   ·exact xA i j b c hb hc hi hj e
 ·intro i b hb
  by_cases hi:al i
  ·exact pK i hi
  ·exact(qA i b hb hi).1
theorem wI(keep:Bool):∀(rs:List D) (id:Nat),(takeAll keep id rs).1.length=rs.length
 | [],_=>rfl
 |d :: r,id=>by simp[takeAll,wI keep r (id+1)]
theorem wJ(keep:Bool):∀(rs:List D) (id:Nat) (i:Nat) (d:D),rs[i]?=some d->(takeAll keep id rs).1[i]?=some (takeIn keep (id+i) d).1
 |d0 :: r,id,0,d,h=>by simp at h;subst h;rfl
 |d0 :: r,id,i+1,d,h=>by
  simp only[bOY]at h;have:=wJ keep r (id+1) i d h;simp only[takeAll,bOY,this];rw[show id+1+i=id+(i+1) by omega]
theorem takeAll_ups(keep:Bool):∀(rs:List D) (id:Nat) (hp:Nat->Option iM) (j:Nat),
  applyUps (takeAll keep id rs).2 hp j=match (if id<=j then rs[j-id]? else none)with
   |some (.own e k ns)=>if keep=true then some ⟨e,.ints k ns⟩else hp j
   |_=>hp j
 | [],id,hp,j=>by simp[takeAll,applyUps]
 |d :: r,id,hp,j=>by
  simp only[takeAll];rw[jE,takeAll_ups keep r (id+1)]
  by_cases hj:id+1<=j
  ·rw[if_pos hj,aT];have e:j-id=(j-(id+1))+1:=by omega
   rw[e,bOY];have hd:applyUps (takeIn keep id d).2 hp j=hp j:=by
    cases d <;> cases keep <;> first |rfl | (simp only[takeIn,cond_true,applyUps];rw[eK _ _ (by omega)])
   rw[hd]
  ·rw[if_neg hj]
   by_cases bKG:id<=j
   ·obtain rfl:j=id:=by omega
    rw[if_pos (bNB _),Nat.sub_self];cases d <;> cases keep <;> simp[takeIn,applyUps,bD]
   ·rw[if_neg bKG];cases d <;> cases keep <;> first |rfl | (simp only[takeIn,cond_true,applyUps];rw[eK _ _ (by omega)])
end
end AI
namespace AI
open Go Go.RowKit
section
variable {P:Program} {E:Env} {X:Nat->Prop} {w0:Old} {ρ:Nat->Nat} {al:Nat->Prop} {fr:Nat->A} {hp:Nat->Option iM} {a:Act} {w:World} {o:Oper} {id:Nat} {x:A} {u:oC}
def Ok(P:Program)(E:Env)(X:Nat->Prop)(w0:Old)(al:Nat->Prop)(fr:Nat->A)(hp:Nat->Option iM)(a:Act)(w:World)(o:Oper)(id:Nat)(x:A)(u:oC):Prop :=
 ∀(next:Act->World->Prop) (Q:Exit->Act->World->Prop),(∀ρ' v w',gX E X w0 ρ' (mB al id) (zE o x fr) (applyUps u hp) (a.put o.dst v) w'->next (a.put o.dst v) w')->o.wp P a w next Q
theorem iE.step(h:iE P E X w0 al fr hp a w o id x u):Ok P E X w0 al fr hp a w o id x u:=by
 intro next Q hn;obtain⟨ρ',v,w',hr,hs⟩:=h;unfold Oper.wp;rcases hr with hr |⟨hr,rfl⟩
 ·rw[hr];exact hn ρ' v w' hs
 ·rw[hr];exact hn ρ' undef w' hs
theorem Qg{α β:Type}{f:α->Option β}:∀{l:List α} {r:List β},l.mapM f=some r->∀(i:Nat) (y:β),r[i]?=some y->∃x,l[i]?=some x/\f x=some y
 | [],r,h,i,y,hy=>by simp at h;subst h;simp at hy
 |x :: l,r,h,i,y,hy=>by
  rw[bOI]at h;simp only[bPG,bPH,bPI,Option.some.injEq]at h;obtain⟨z,hz,zs,Xl,rfl⟩:=h
  match i with
  |0=>simp at hy;subst hy;exact⟨x,rfl,hz⟩
  |i+1=>simp at hy ⊢;exact Qg Xl i y hy
theorem Tw{args:List A}{y:A}(hy:y∈args){i:Nat}(hi:i∈refs y):(i,none)∈Vc args :=
 List.mem_map.2 ⟨i,List.mem_flatMap.2 ⟨y,hy,hi⟩,rfl⟩
theorem yU(h:gX E X w0 ρ al fr hp a w):∀{args:List Operand} {vs:List Value},argVals (args.map (evA E fr))=some vs->args.map a.eval=vs
 | [],vs,he=>by cases he;rfl
 |y :: ys,vs,he=>by
  simp only[bNA]at he ⊢;unfold argVals at he;split at he
  ·cases ‹_ :: _=[]›
  ·rename_i v r gV;obtain⟨e1,e2⟩:=List.cons.inj gV;obtain⟨vr,bER,rfl⟩:=Option.map_eq_some_iff.1 he;have hy:=(h.ev y).1;rw[e1]at hy;rw[<-e2]at bER;rw[yU h bER,hy.1]
  ·cases he
theorem Hl{R:Type}{g:Prop}{x:Option R}{r:R}(h:aQ g x=some r):g/\x=some r:=by
 unfold aQ at h;split at h
 ·rename_i hg;exact⟨hg,h⟩
 ·cases h
theorem Xw{R:Type}{g:Prop}{x:Option R}(h:g):aQ g x=x:=by unfold aQ;rw[if_pos h]
theorem aKQ (h : gX E X w0 ρ al fr hp a w) (hd : hI E.nt o = true) (hC : iW P E) {f : FuncId} {fo : Operand} (hf : a.eval fo = .func (.func f) #[] #[]) {args : List Operand} {uL : Array TypeId} (ho : o.op = .call ⟨.value fo, args.toArray, uL⟩) {g : Prop} {rs : List Value} (hr : (argVals (args.map (evA E fr))).bind (E.ext f) = some (g, rs)) (hg : g)
    (he : some (aSM rs, []) = some (x, u)) : iE P E X w0 al fr hp a w o id x u := by
  obtain ⟨vs, aZP, hx⟩ := Option.bind_eq_some_iff.1 hr
  obtain ⟨Na, fH⟩ := hC.x f vs g rs hx hg
  have hargs := yU h aZP
  have hex : (execOp a.eval o).run P w = .ok (.value (resV rs)) w := by
    unfold execOp
    rw [ho]
    simp only [resolve, hf, Deferred.ofValue, Sem.run_bind, Sem.run_pure, Result.andThen_ok, invoke]
    rw [← fH w]
    congr 1
    simp [← hargs]
  match rs, he with
  | [v], he =>
    obtain ⟨e1, e2⟩ := Prod.mk.inj (Option.some.inj he)
    rw [← e1, ← e2]
    exact bW h hd hex ⟨rfl, Na v (by simp)⟩ (by intro i hi; cases hi)
  | [], he =>
    obtain ⟨e1, e2⟩ := Prod.mk.inj (Option.some.inj he)
    rw [← e1, ← e2]
    exact bW h hd hex ⟨#[], rfl, rfl, fun i y v hy => by simp at hy⟩ (by intro i hi; cases hi)
  | v1 :: v2 :: vr, he =>
    obtain ⟨e1, e2⟩ := Prod.mk.inj (Option.some.inj he)
    rw [← e1, ← e2]
    refine bW h hd hex ⟨(v1 :: v2 :: vr).toArray, rfl, by simp, fun i y v hy hv => ?_⟩ ?_
    · simp only [bNF, bOF] at hy
      obtain ⟨q, hq, rfl⟩ := hy
      have : q = v := by have : (v1 :: v2 :: vr)[i]? = some v := by simpa using hv
                         rw [hq] at this; exact Option.some.inj this
      subst this
      exact ⟨rfl, Na q (bNK hq)⟩
    · intro j hj
      obtain ⟨y, hy, hj⟩ := List.mem_flatMap.1 hj
      obtain ⟨q, _, rfl⟩ := List.mem_map.1 hy
      simp [refsV, refsL] at hj
theorem Xi:∀{l r:List Nat},leqN l r=true->l=r
 | [],[],_=>rfl
 |a :: l,b :: r,h=>by
  simp only[leqN,bNH]at h;rw[bNP h.1,Xi h.2]
 | [],_ :: _,h=>by cases h
 |_ :: _,[],h=>by cases h
theorem xG(ps:List Nat)(hp:Nat->Option iM):∀(args:List A) (i:Nat) (us:List (Nat×Nat)) (ds:List D),argsIO ps hp i args=some (us,ds) ->
  (∃gid:Nat->Nat,∀q∈us,i<=q.1/\gid q.1=q.2)/\(∀q∈us,∃y d,args[q.1-i]?=some y/\i<=q.1/\toIO hp y=some (q.2,d)/\ds[q.1-i]?=some d)/\ds.length=args.length /\
  ∀(j:Nat) (d:D),ds[j]?=some d->∃y,args[j]?=some y/\((∃k,toIO hp y=some (k,d)/\(i+j,k)∈us)\/(toD hp y=some d/\∀r∈refs y,r∈nG ps i args))
 | [],i,us,ds,h=>by
  cases h;exact⟨⟨fun _=>0,fun q hq=>by cases hq⟩,fun q hq=>(by cases hq),rfl,fun j d hj=>by simp at hj⟩
 |y :: args,i,us,ds,h=>by
  unfold argsIO at h;cases Ql:ps.elem i with
  |true =>
   rw[Ql]at h;simp only[cond_true]at h;split at h
   ·rename_i k d Hg;split at h
    ·rename_i bDS ds' hr;cases h;obtain⟨⟨gid,h1⟩,h2,h3,h4⟩:=xG ps hp args (i+1) bDS ds' hr;refine⟨⟨fun q=>if q=i then k else gid q,?_⟩,?_,by simp[h3],?_⟩
     ·intro q hq;rcases List.mem_cons.1 hq with rfl |hq
      ·exact⟨bNB _,by simp⟩
      ·obtain⟨h5,h6⟩:=h1 q hq;exact⟨by omega,by simp only;rw[aX];exact h6⟩
     ·intro q hq;rcases List.mem_cons.1 hq with rfl |hq
      ·exact⟨y,d,by simp,bNB _,Hg,by simp⟩
      ·obtain⟨y',d',h5,h6,h7,h8⟩:=h2 q hq;exact⟨y',d',by rw[show q.1-i=(q.1-(i+1))+1 by omega];simpa using h5,by omega,h7,by rw[show q.1-i=(q.1-(i+1))+1 by omega];simpa using h8⟩
     ·intro j d' hj
      match j with
      |0 =>
       simp at hj;subst hj;exact⟨y,rfl,.inl ⟨k,Hg,by simp⟩⟩
      |j+1 =>
       obtain⟨y',h5,h6⟩:=h4 j d' (by simpa using hj);refine⟨y',by simpa using h5,?_⟩;rcases h6 with ⟨k',h7,h8⟩ |⟨h7,h8⟩
       ·exact .inl ⟨k',h7,bNU _ (by rw[show i+(j+1)=i+1+j by omega];exact h8)⟩
       ·exact .inr ⟨h7,fun r hr=>by unfold nG;exact bPS _ (h8 r hr)⟩
    ·cases h
   ·cases h
  |false =>
   rw[Ql]at h;simp only[cond_false]at h;split at h
   ·rename_i d Hg;split at h
    ·rename_i bDS ds' hr;cases h;obtain⟨⟨gid,h1⟩,h2,h3,h4⟩:=xG ps hp args (i+1) us ds' hr;refine⟨⟨gid,fun q hq=>⟨by have:=(h1 q hq).1;omega,(h1 q hq).2⟩⟩,?_,by simp[h3],?_⟩
     ·intro q hq;obtain⟨y',d',h5,h6,h7,h8⟩:=h2 q hq;exact⟨y',d',by rw[show q.1-i=(q.1-(i+1))+1 by omega];simpa using h5,by omega,h7,by rw[show q.1-i=(q.1-(i+1))+1 by omega];simpa using h8⟩
     ·intro j d' hj
      match j with
      |0 =>
       simp at hj;subst hj;exact⟨y,rfl,.inr ⟨Hg,fun r hr=>by unfold nG;rw[Ql];exact List.mem_append_left _ hr⟩⟩
      |j+1 =>
       obtain⟨y',h5,h6⟩:=h4 j d' (by simpa using hj);refine⟨y',by simpa using h5,?_⟩;rcases h6 with ⟨k',h7,h8⟩ |⟨h7,h8⟩
       ·exact .inl ⟨k',h7,by rw[show i+(j+1)=i+1+j by omega];exact h8⟩
       ·exact .inr ⟨h7,fun r hr=>by unfold nG;exact bPS _ (h8 r hr)⟩
    ·cases h
   ·cases h
theorem Ed:∀(us:List (Nat×Nat)) (js:List D) (ub:oC),backIO us js=some ub->ub.map (·.1)=us.map (·.2)/\∀(j:Nat) (q:Nat×Nat),us[j]?=some q->∃e k ns o n,js[j]?=some (.io e k ns o n)/\ub[j]?=some (q.2,some ⟨e,.ints k ns⟩)
 | [],[],ub,h=>by cases h;exact⟨rfl,fun j q hj=>by simp at hj⟩
 | (p,k) :: us,d :: js,ub,h=>by
  cases d with
  |io e kk ns o n =>
   simp only[backIO]at h;split at h
   ·rename_i bHH hr;cases h;obtain⟨h1,h2⟩:=Ed us js bHH hr;refine⟨by simp[h1],fun j q hj=>?_⟩
    match j with
    |0=>simp at hj;subst hj;exact⟨e,kk,ns,o,n,rfl,rfl⟩
    |j+1 =>
     obtain⟨e',k',lC,o',n',h3,h4⟩:=h2 j q (by simpa using hj);exact⟨e',k',lC,o',n',by simpa using h3,by simpa using h4⟩
   ·cases h
  |s=>cases h
  |rows=>cases h
  |agg=>cases h
  |own=>cases h
  |back=>cases h
 | [],_ :: _,ub,h=>by cases h
 |_ :: _,[],ub,h=>by cases h
theorem pC{i:Nat}:∀{u:oC} {hp:Nat->Option iM},i ∉ u.map (·.1)->applyUps u hp i=hp i
 | [],_,_=>rfl
 | (j,b) :: u,hp,h=>by
  simp only[bNA,bOH,not_or]at h;simp only[applyUps];rw[pC h.2,eK _ _ h.1]
theorem Ee{i:Nat}{b:Option iM}:∀{u:oC} {hp:Nat->Option iM} {j:Nat},nodup (u.map (·.1))=true->u[j]?=some (i,b)->applyUps u hp i=b
 | [],_,j,_,h=>by simp at h
 | (k,c) :: u,hp,j,hn,h=>by
  simp only[bNA,nodup,bNH,bOJ]at hn
  match j with
  |0 =>
   simp at h;obtain⟨rfl,rfl⟩:=h;simp only[applyUps];rw[pC (fun hm=>by
    have:(u.map (·.1)).elem k=true:=by simpa using hm
    rw[this]at hn;cases hn.1),bD]
  |j+1 =>
   simp only[applyUps];exact Ee (j:=j) hn.2 (by simpa using h)
theorem Cn{α:Type}{f:α->Nat}:∀{l:List α} {j j':Nat} {q q':α},nodup (l.map f)=true->l[j]?=some q->l[j']?=some q'->f q=f q'->j=j'
 | [],j,_,q,_,_,h,_,_=>by simp at h
 |y :: l,j,j',q,q',hn,h,h',he=>by
  simp only[bNA,nodup,bNH,bOJ]at hn;have vY:∀z∈l,f z≠f y:=fun z hz e=>by
   have:(l.map f).elem (f y)=true:=by
    have:f y∈l.map f:=List.mem_map.2 ⟨z,hz,e⟩;simpa using this
   rw[this]at hn;cases hn.1
  match j,j' with
  |0,0=>rfl
  |0,j'+1=>simp at h h';subst h;exact absurd he.symm (vY q' (bNK h'))
  |j+1,0=>simp at h h';subst h';exact absurd he (vY q (bNK h))
  |j+1,j'+1=>exact congrArg (·+1) (Cn hn.2 (by simpa using h) (by simpa using h') he)
theorem aGD{xs ys:List Nat}(h:Jx xs ys=true){x:Nat}(hx:x∈xs):x ∉ ys:=fun hy=>by
 have:=List.all_eq_true.1 h x hx;have h2:ys.elem x=true:=by simpa using hy
 rw[h2]at this;cases this
theorem By{y:A}{k:Nat}{d:D}(h:toIO hp y=some (k,d)):∃e kk ns off n,d=.io e kk ns off n/\hp k=some ⟨e,.ints kk ns⟩/\((y=.v (.one (.buf k n))/\off=0)\/y=.v (.one (.view k off n))):=by
 unfold toIO at h;split at h
 ·split at h
  ·rename_i e kk ns hb;cases h;exact⟨_,_,_,_,_,rfl,hb,.inl ⟨rfl,rfl⟩⟩
  ·cases h
 ·split at h
  ·rename_i e kk ns hb;cases h;exact⟨_,_,_,_,_,rfl,hb,.inr rfl⟩
  ·cases h
 ·cases h
theorem Tb(h:gX E X w0 ρ al fr hp a w){y:A}{v:Value}(hr:vK ρ hp (XO X ρ hp) w y v){k:Nat}{e:TypeId}{kk:IntKind}{ns:List Int}{off n:Nat}(hd:toIO hp y=some (k,.io e kk ns off n)):aQX w (ρ k) e kk ns off n v:=by
 obtain⟨e',kk',lC,aSV,n',heq,hb,hy⟩:=By hd;cases heq;have hB:Bl (fun _=>False) w (ρ k) ⟨e,.ints kk ns⟩:=(h.blk k _ hb).2;rcases hy with ⟨rfl,rfl⟩ |rfl
 ·obtain⟨cap,hv,yO,hc,_⟩:=hr;have:=hc _ kk ns hb rfl;exact⟨⟨0,cap,hv,yO,fun _=>rfl,fun _=>rfl,by omega,this.2.1,this.2.2⟩,hB⟩
 ·obtain⟨o',cap,hv,yO,hA,hA0,hc⟩:=hr;have:=hc _ kk ns hb rfl;exact⟨⟨o',cap,hv,yO,hA,hA0,this⟩,hB⟩
theorem Yx{y:A}{d:D}(h:toD hp y=some d):Ap d=false:=by
 unfold toD at h;split at h
 ·cases h;rfl
 ·cases h;rfl
 ·cases h;rfl
 ·split at h
  ·cases h;rfl
  ·split at h
   ·cases h;rfl
   ·cases h
  ·cases h
 ·split at h
  ·cases h;rfl
  ·cases h
 ·cases h
theorem Ib{Y:Nat->Prop}{w:World}{g:Nat->Nat}{i:Nat}{v:Value}{d:D}(hn:Ap d=false)(h:lL Y w d v):Yu Y w g i v d:=by
 cases d with
 |io=>cases hn
 |s x=>exact h
 |rows a b c=>exact h
 |agg cs=>exact h
 |own a b c=>exact h
 |back=>exact h
theorem Xk{gid:Nat->Nat}:∀{us:List (Nat×Nat)} {q:Nat×Nat},(∀q∈us,gid q.1=q.2)->q∈us->idAt us q.1=gid q.1
 | [],q,_,h=>by cases h
 |q0 :: us,q,hg,h=>by
  simp only[idAt];cases hb:bNC q0.1 q.1 with
  |true =>
   rw[cond_true,<-bNP hb];exact(hg q0 (bNI ..)).symm
  |false =>
   rw[cond_false];rcases List.mem_cons.1 h with rfl |h
   ·rw[Nat.beq_refl]at hb;cases hb
   ·exact Xk (fun q hq=>hg q (bNU _ hq)) h
theorem Tp{us:List (Nat×Nat)}{d:D}{e:TypeId}{k:IntKind}{ns:List Int}(h:reBack us d=.own e k ns):d=.own e k ns:=by
 cases d <;> first |exact h |cases h
theorem eff_callIO(h:gX E X w0 ρ al fr hp a w)(hd:hI E.nt o=true)(hC:iW P E)(tZ:∀j,j<8->¬al (id+j)){f:FuncId}{fo:Operand}(hf:a.eval fo=.func (.func f) #[] #[]){args:List Operand}{uL:Array TypeId}(ho:o.op=.call ⟨.value fo,args.toArray,uL⟩){p:Nat}{ps:List Nat}(Hg:E.ioF f=p :: ps)
  (he:callIO E (p :: ps) id (keepOf E o) f (args.map (evA E fr)) hp (fun a u=>some (a,u))=some (x,u)):Ok P E X w0 al fr hp a w o id x u:=by
 simp only[callIO,Ac]at he;generalize keepOf E o=keep at he;split at he
 ·cases he
 ·rename_i us ds aRM;cases aKC:leqN (us.map (·.1)) (p :: ps)&&(nodup (us.map (·.2))&&Jx (us.map (·.2)) (nG (p :: ps) 0 (args.map (evA E fr))))with
  |false=>rw[aKC]at he;cases he
  |true =>
  rw[aKC]at he;simp only[cond_true]at he;simp only[bNH]at aKC;obtain⟨aRO,aOV,bBG⟩:=aKC;have Ql:us.map (·.1)=p :: ps:=Xi aRO;split at he
  ·cases he
  ·rename_i gd rs aTX;obtain⟨aRJ,he⟩:=Hl he;obtain⟨Af,js,rfl,aEU,aEX⟩:=hC.i f p ps ds gd rs Hg aTX aRJ;have aXC:us.length=(p :: ps).length:=by rw[<-Ql];simp
   have Zz:(Af ++ js).length-us.length=Af.length:=by rw[bOE,aEU.len,aXC];omega
   rw[Zz]at he;rw[bOQ,bPT]at he;cases Xt:bNE us.length (Af ++ js).length&&bNE (Af ++ js).length 8&&!(Af.any shares)with
   |false=>rw[Xt]at he;cases he
   |true =>
   rw[Xt]at he;simp only[cond_true]at he;simp only[bNH,bOJ]at Xt;obtain⟨⟨_,bJX⟩,aUF⟩:=Xt;have Qr:Af.length<=8:=by have:=bOZ bJX;rw[bOE]at this;omega
   split at he
   ·cases he
   ·rename_i ub bIZ;obtain⟨⟨gid,aEP⟩,bIW,aMT,bBD⟩:=xG _ _ _ _ _ _ aRM;obtain⟨aTR,aZT⟩:=Ed _ _ _ bIZ;rw[bOU]at aMT;obtain⟨U,hU⟩:∃U:oC,U=(nG (p :: ps) 0 (args.map (evA E fr))).map fun i=>(i,none):=⟨_,rfl⟩
    have aIK:Cons U:=by rw[hU];intro q hq;obtain⟨i,_,rfl⟩:=List.mem_map.1 hq;rfl
    have bLN:U.map (·.1)=nG (p :: ps) 0 (args.map (evA E fr)):=by rw[hU,List.map_map];exact List.map_id _
    have Er:∀q∈us,∃e kk ns off n,hp q.2=some ⟨e,.ints kk ns⟩/\ds[q.1]?=some (.io e kk ns off n):=by
     intro q hq;obtain⟨y,d,h1,_,h2,h3⟩:=bIW q hq;obtain⟨e,kk,ns,off,n,rfl,h4,_⟩:=By h2;exact⟨e,kk,ns,off,n,h4,by simpa using h3⟩
    have aOP:∀q∈us,applyUps U hp q.2=hp q.2:=fun q hq=>pC (by rw[bLN];exact aGD bBG (List.mem_map.2 ⟨q,hq,rfl⟩))
    have oO:∀i,i∈p :: ps->∃q∈us,q.1=i/\gid i=q.2:=by
     intro i hi;rw[<-Ql]at hi;obtain⟨q,hq,rfl⟩:=List.mem_map.1 hi;exact⟨q,hq,rfl,(aEP q hq).2⟩
    have hY:∀b,XO X ρ (applyUps U hp) b->b<w.heap.size:=by
     rintro b (hb |⟨i,bl,h1,h2⟩)
     ·have:=Old.Qb (h.x0 b hb);have:=h.below.size;omega
     ·have:=h.gZ (fQ aIK h1);omega
    have hG:GlobOk E.glob (XO X ρ (applyUps U hp)) w:=by
     intro g k ns hg;obtain⟨h1,h2,h3⟩:=h.Nh g k ns hg;exact⟨h1,fun ho=>h2 (ho.imp (fun h=>h) (aIM.of_cons aIK)),h3.later (gB.cons aIK)⟩
    obtain⟨g0,hg0⟩:∃g0:Nat->Nat,g0=fun i=>ρ (gid i):=⟨_,rfl⟩
    have aND:∀b,zG (p :: ps) g0 b->∃q∈us,ρ q.2=b:=by
     rintro b ⟨i,hi,rfl⟩;obtain⟨q,hq,_,h2⟩:=oO i hi;exact⟨q,hq,by rw[hg0];simp only;rw[h2]⟩
    have aEW:=aEU.run (XO X ρ (applyUps U hp)) w (args.map a.eval) g0 hY hG (by simp[aMT]) (fun i d v hi hv=>by
     obtain⟨y,aEC,aOL⟩:=bBD i d hi;simp only[bNF,bOF]at aEC hv;obtain⟨z,hz,rfl⟩:=aEC;obtain⟨z',aTI,rfl⟩:=hv;rw[hz]at aTI;cases aTI;have gV:=h.ev z;rcases aOL with ⟨k,h1,h2⟩ |⟨h1,h2⟩
     ·rw[bND]at h2;obtain⟨e,kk,ns,off,n,rfl,h4,_⟩:=By h1;have e1:g0 i=ρ k:=by rw[hg0];simp only;rw[(aEP _ h2).2]
      refine⟨by rw[e1];exact .inr ⟨k,_,(aOP _ h2).trans h4,rfl⟩,by rw[e1];exact Tb h gV.1 h1⟩
     ·refine Ib (Yx h1) (Bz h aIK gV.1 (fun i hi=>?_) h1);rw[hU];exact List.mem_map.2 ⟨i,h2 i hi,rfl⟩) (fun i j hi hj heq=>by
     obtain⟨q,hq,rfl,h1⟩:=oO i hi;obtain⟨q',Xm,rfl,h2⟩:=oO j hj;rw[hg0]at heq;simp only[h1,h2]at heq;obtain⟨e1,k1,n1,o1,m1,vR,_⟩:=Er q hq;obtain⟨e2,k2,n2,o2,m2,aKE,_⟩:=Er q' Xm;have h3:=h.inj _ _ _ _ vR aKE heq;obtain⟨a1,aKG⟩:=bNZ hq;obtain⟨a2,aVO⟩:=bNZ Xm;have:=Cn aOV aKG aVO h3;subst this;rw[aKG]at aVO;cases aVO;rfl)
    have fH:(execOp a.eval o).run P w=.ok (.enter f (args.map a.eval).toArray) w:=by
     unfold execOp;rw[ho];simp only[resolve,hf,Deferred.ofValue,Sem.run_bind,Sem.run_pure,Result.andThen_ok,invoke];rw[<-aEX];congr 1;simp
    intro next Q hn;unfold Oper.wp;rw[fH];simp only[Oper.upon_enter];refine aEW.mono ?_;rintro e w' ⟨vL,rfl,aPN,⟨g,bAY,aEO,aVB⟩,Xu⟩;simp only;obtain⟨Mh,aEH⟩:∃Mh,Mh=Af.map (reBack us):=⟨_,rfl⟩;rw[<-aEH]at he;have aMP:Mh.length=Af.length:=by rw[aEH];simp
    have bCJ:∀{i:Nat} {e:TypeId} {k:IntKind} {ns:List Int},Mh[i]?=some (.own e k ns)->Af[i]?=some (.own e k ns):=by
     intro i e k ns hi;rw[aEH,bNF]at hi;obtain⟨d,h1,h2⟩:=Option.map_eq_some_iff.1 hi;rw[h1,Tp h2]
    obtain⟨zR,aPB⟩:∃zR,zR=applyUps ub hp:=⟨_,rfl⟩;obtain⟨tM,Nb⟩:∃tM,tM=applyUps (takeAll keep id Mh).2 zR:=⟨_,rfl⟩;obtain⟨ρ2,Ar⟩:∃ρ2:Nat->Nat,ρ2=fun j=>if id<=j/\j<id+8 then g (j-id)else ρ j:=⟨_,rfl⟩
    have vY:∀i,al i->¬(id<=i/\i<id+8):=fun i hi hr=>tZ (i-id) (by omega) (by rw[show id+(i-id)=i by omega];exact hi)
    have rZ:∀j,tM j=match (if id<=j then Mh[j-id]? else none)with
      |some (.own e k ns)=>if keep=true then some ⟨e,.ints k ns⟩else zR j
      |_=>zR j:=fun j=>by rw[Nb];exact takeAll_ups keep Mh id _ j
    have aZS:nodup (ub.map (·.1))=true:=by rw[aTR];exact aOV
    have aUY:∀q∈us,∃(e:TypeId) (k:IntKind) (ns:List Int) (j:Nat),zR q.2=some ⟨e,.ints k ns⟩/\us[j]?=some q/\∃(o n:Nat),js[j]?=some (D.io e k ns o n):=by
     intro q hq;obtain⟨j,hj⟩:=bNZ hq;obtain⟨e,k,ns,o,n,h1,h2⟩:=aZT j q hj;exact⟨e,k,ns,j,by rw[aPB];exact Ee aZS h2,hj,o,n,h1⟩
    have aEK:∀j,j ∉ us.map (·.2)->zR j=hp j:=fun j hj=>by rw[aPB];exact pC (by rw[aTR];exact hj)
    have bBT:∀j b,zR j=some b->al j:=by
     intro j b hb
     by_cases hj:j∈us.map (·.2)
     ·obtain⟨q,hq,rfl⟩:=List.mem_map.1 hj;obtain⟨e,kk,ns,off,n,h1,_⟩:=Er q hq;exact h.alh _ _ h1
     ·rw[aEK j hj]at hb;exact h.alh _ _ hb
    have aUQ:∀j b,zR j=some b->ρ j<w.heap.size:=by
     intro j b hb
     by_cases hj:j∈us.map (·.2)
     ·obtain⟨q,hq,rfl⟩:=List.mem_map.1 hj;obtain⟨e,kk,ns,off,n,h1,_⟩:=Er q hq;exact h.gZ h1
     ·rw[aEK j hj]at hb;exact h.gZ hb
    have Qo:∀j,¬al j->zR j=none:=by
     intro j hj;cases hq:zR j with
     |none=>rfl
     |some b=>exact absurd (bBT j b hq) hj
    have pZ:∀j b,tM j=some b->¬al j->∃e k ns,id<=j/\Mh[j-id]?=some (.own e k ns)/\keep=true/\b=⟨e,.ints k ns⟩:=by
     intro j b hj pK;rw[rZ]at hj;split at hj
     ·rename_i e k ns hq;split at hj
      ·rename_i hk;cases hj;split at hq
       ·exact⟨e,k,ns,‹_›,hq,hk,rfl⟩
       ·cases hq
      ·rw[Qo j pK]at hj;cases hj
     ·rw[Qo j pK]at hj;cases hj
    have aEG:∀i,al i->tM i=zR i:=by
     intro i hi;rw[rZ];split
     ·rename_i e k ns hq;split at hq
      ·exact absurd ⟨‹_›,by have:=aR hq;omega⟩ (vY i hi)
      ·cases hq
     ·rfl
    have Nf:=h.aGT (ρ':=ρ2) (hp':=tM) (al':=mB al id) aPN (fun b hb=>by
      obtain⟨q,hq,rfl⟩:=aND b hb;obtain⟨e,kk,ns,off,n,h1,_⟩:=Er q hq;exact⟨q.2,_,h1,rfl⟩) (fun _ h=>.inl h)
     (fun i hi=>by rw[Ar];simp only;rw[if_neg (vY i hi)])
     (fun i b' hi hb=>by
      rw[aEG i hi]at hb
      by_cases hj:i∈us.map (·.2)
      ·obtain⟨q,hq,rfl⟩:=List.mem_map.1 hj;obtain⟨e,kk,ns,off,n,h1,h2⟩:=Er q hq;obtain⟨e',k',lC,j,h3,h4,o,m,h5⟩:=aUY q hq;rw[h3]at hb;cases hb;have aXJ:(p :: ps)[j]?=some q.1:=by rw[<-Ql];simp[h4]
       obtain⟨e1,k1,n1,o1,m1,e2,k2,n2,h6,h7,h8⟩:=aEU.io j q.1 aXJ;rw[h2]at h6;cases h6;rw[h5]at h7;cases h7;have aVL:Pd w' (g0 q.1) (D.io e' k' lC 0 0):=Xu j q.1 _ aXJ h5;have e0:g0 q.1=ρ q.2:=by rw[hg0];simp only;rw[(aEP q hq).2]
       rw[e0]at aVL;refine .inr ⟨⟨q.1,by rw[<-Ql];exact List.mem_map.2 ⟨q,hq,rfl⟩,e0⟩,_,h1,⟨fun k ns he=>?_,fun cs he=>by cases he⟩,fun Y=>aVL⟩;cases he;exact⟨_,_,rfl,h8.symm⟩
      ·rw[aEK i hj]at hb;refine .inl ⟨fun hm=>?_,hb⟩;obtain⟨q,hq,h1⟩:=aND _ hm;obtain⟨e,kk,ns,off,n,h2,_⟩:=Er q hq;have:=h.inj _ _ _ _ h2 hb h1;subst this;exact hj (List.mem_map.2 ⟨q,hq,rfl⟩))
     (fun j b hj pK=>by
      obtain⟨e,k,ns,h1,h2,h3,rfl⟩:=pZ j b hj pK;have iN:=aR h2;obtain⟨v,hv⟩:=aY (l:=vL) (i:=j-id) (by omega);obtain⟨arr,cap,_,yS,hw,h4,aPO,h5,h6⟩:=aVB (j-id) _ v (bCJ h2) hv;have e1:ρ2 j=g (j-id):=by rw[Ar];simp only;rw[if_pos ⟨h1,by omega⟩]
      exact⟨.inr ⟨h1,by omega⟩,by rw[e1];exact yS,fun Y=>⟨arr,by rw[e1];exact hw,bNX h4 aPO,h6⟩⟩)
     (fun i j b c hi hj bBV bBU e=>by
      obtain⟨e1,k1,Sn,h1,h2,h3,_⟩:=pZ i b hi bBV;obtain⟨e2,k2,bIB,h4,h5,h6,_⟩:=pZ j c hj bBU;have l1:=aR h2;have l2:=aR h5;rw[Ar]at e;simp only at e;rw[if_pos ⟨h1,by omega⟩,if_pos ⟨h4,by omega⟩]at e;have:=aEO _ _ _ _ (bCJ h2) (bCJ h5) rfl rfl e;omega)
    obtain⟨Ud,bAQ⟩:=Nf;have aZZ:∀{i:Nat} {d:D},Af[i]?=some d->shares d=false:=by
     intro i d hi;cases hs:shares d with
     |false=>rfl
     |true =>
      have:Af.any shares=true:=List.any_eq_true.2 ⟨d,bNK hi,hs⟩;rw[this]at aUF;cases aUF
    have Ue:∀(i:Nat) (d:D) (v:Value),Af[i]?=some d->vL[i]?=some v->Bk ρ2 tM (XO X ρ2 tM) w' (takeIn keep (id+i) (reBack us d)).1 v/\∀j∈refsV (takeIn keep (id+i) (reBack us d)).1,mB al id j:=by
     intro i d v hi hv;have bAX:Mh[i]?=some (reBack us d):=by rw[aEH,bNF,hi];rfl
     have hg:=aVB i d v hi hv;have bKI:=aR hi;have aRF:=aZZ hi;cases d with
     |own e k ns =>
      obtain⟨arr,cap,rfl,yS,hw,h4,aPO,h5,h6⟩:=hg;have bAJ:¬X (g i):=fun hx=>by have:=Old.Qb (h.x0 _ hx);have:=h.below.size;omega
      cases keep with
      |true =>
       have e1:ρ2 (id+i)=g i:=by rw[Ar];simp only;rw[if_pos ⟨by omega,by omega⟩];congr 1;omega
       refine⟨⟨cap,by rw[e1],h4,fun blk k1 Sn hb hk=>?_,fun blk cs hb hk=>?_⟩,fun j hj=>?_⟩
       rotate_left
       ·rw[rZ,aT,show id+i-id=i by omega,bAX]at hb;simp only[reBack,if_true]at hb;cases hb;cases hk
       rotate_left
       ·rw[rZ,aT,show id+i-id=i by omega,bAX]at hb;simp only[reBack,if_true]at hb;cases hb;cases hk;exact⟨rfl,h5,by rw[e1];unfold jR;rw[hw];exact aPO⟩
       ·simp only[reBack,takeIn,cond_true,refsV,refsL,bNS]at hj;subst hj;exact .inr ⟨by omega,by omega⟩
      |false =>
       refine⟨⟨_,cap,rfl,h4,fun j n hj=>⟨g i,0,rfl,(Array.getElem?_eq_some_iff.1 hw).1,?_,?_⟩⟩,fun j hj=>by simp[reBack,takeIn,refsV,refsL]at hj⟩
       ·rintro (hx |⟨j',bl,h7,h8⟩)
        ·exact bAJ hx
        ·by_cases Jp:al j'
         ·rw[aEG j' Jp]at h7;have:=aUQ _ _ h7;have e2:ρ2 j'=ρ j':=by rw[Ar];simp only;rw[if_neg (vY j' Jp)]
          omega
         ·obtain⟨_,_,_,_,_,hk,_⟩:=pZ j' bl h7 Jp;cases hk
       ·rw[bND,cell_of_row w' (g i) j arr e (0,0) hw];exact h6 j n hj
     |s x=>exact⟨lL.any (d:=.s x) aRF rfl hg,fun j hj=>by simp[reBack,takeIn,refsV,refsL]at hj⟩
     |rows sz n f=>cases aRF
     |agg cs=>exact⟨lL.any (d:=.agg cs) aRF rfl hg,fun j hj=>by simp[reBack,takeIn,refsV]at hj⟩
     |io=>cases aRF
     |back p0 off n =>
      obtain⟨j,e,k,ns,h1,h2,h3⟩:=hg;obtain⟨q,hq,rfl,h4⟩:=oO p0 (bNK h1);have bAV:idAt us q.1=q.2:=(Xk (fun q hq=>(aEP q hq).2) hq).trans h4;obtain⟨e0,kk,ns0,off0,n0,hb0,_⟩:=Er q hq;have aPL:=h.alh _ _ hb0;have e1:ρ2 q.2=g0 q.1:=by rw[Ar,hg0];simp only;rw[if_neg (vY _ aPL),h4]
      obtain⟨o',cap,h5,h6,h7,h8,h9,bGG,bMD⟩:=h3;simp only[reBack,bAV,takeIn];refine⟨⟨o',cap,by rw[e1];exact h5,h6,h7,h8,fun blk k1 Sn hb hk=>?_⟩,fun j hj=>?_⟩
      ·rw[aEG _ aPL]at hb;obtain⟨e',k',lC,j',bMC,bMB,o,m,bMA⟩:=aUY q hq;rw[bMC]at hb;cases hb;cases hk;have aXJ:(p :: ps)[j']?=some q.1:=by rw[<-Ql];simp[bMB]
       have bKD:j=j':=by
        have f1:((us.map (·.1)).map gid)[j]?=some q.2:=by rw[Ql,bNF,h1];simp[h4]
        have f2:((us.map (·.1)).map gid)[j']?=some q.2:=by rw[Ql,bNF,aXJ];simp[h4]
        have f3:(us.map (·.1)).map gid=us.map (·.2):=by
         rw[List.map_map];exact bOR fun q hq=>(aEP q hq).2
        have aUH:nodup ((us.map (·.2)).map fun x=>x)=true:=by rw[List.map_id'];exact aOV
        rw[f3]at f1 f2;exact Cn aUH f1 f2 rfl
       subst bKD;rw[bMA]at h2;cases h2;exact⟨h9,bGG,by rw[e1];exact bMD⟩
      ·simp only[refsV,refsL,bNS]at hj;subst hj;exact .inl aPL
    have Dz:(takeAll keep id Mh).1.length=vL.length:=by rw[wI,aMP];exact bAY
    have hval:∀(i:Nat) (y:V) (v:Value),(takeAll keep id Mh).1[i]?=some y->vL[i]?=some v->Bk ρ2 tM (XO X ρ2 tM) w' y v/\∀j∈refsV y,mB al id j:=by
     intro i y v hy hv;obtain⟨d,Ea⟩:=aY (l:=Af) (i:=i) (by have:=aR hv;omega);rw[wJ keep Mh id i (reBack us d) (by rw[aEH,bNF,Ea];rfl)]at hy;cases hy;exact Ue i d v Ea hv
    have qB:∀(y:A),vK ρ2 tM (XO X ρ2 tM) w' y (resV vL)->(∀j∈refs y,mB al id j)->some (y,ub ++ (takeAll keep id Mh).2)=some (x,u)->next (a.put o.dst (resV vL)) w':=by
     intro y hy aZJ heq;obtain⟨e1,e2⟩:=Prod.mk.inj (Option.some.inj heq);refine hn ρ2 (resV vL) w' ?_;rw[<-e1,<-e2,jE,<-aPB,<-Nb];exact Ud.pure hd hy aZJ
    match aZP:vL,Dz,hval,qB with
    | [v],Dz,hval,qB =>
     match ht:(takeAll keep id Mh).1,Dz with
     | [y],_ =>
      rw[ht]at he hval;obtain⟨h1,h2⟩:=hval 0 y v rfl rfl;exact qB (.v y) h1 h2 he
    | [],Dz,hval,qB =>
     match ht:(takeAll keep id Mh).1,Dz with
     | [],_ =>
      rw[ht]at he;exact qB (.Iy []) ⟨#[],rfl,rfl,fun i y v hy=>by simp at hy⟩ (by simp[refs]) he
    |v1 :: v2 :: vr,Dz,hval,qB =>
     match ht:(takeAll keep id Mh).1,Dz with
     |y1 :: y2 :: yr,Dz =>
      rw[ht]at he hval;refine qB (.Iy (y1 :: y2 :: yr)) ⟨(v1 :: v2 :: vr).toArray,rfl,by simpa using Dz,fun i y v hy hv=>(hval i y v hy (by simpa using hv)).1⟩ ?_ he;intro j hj;obtain⟨y,hy,hj⟩:=List.mem_flatMap.1 hj;obtain⟨i,hi⟩:=bNZ hy;obtain⟨v,hv⟩:=aY (l:=v1 :: v2 :: vr) (i:=i) (by have:=aR hi;omega);exact(hval i y v hi hv).2 j hj
theorem aFY(h:gX E X w0 ρ al fr hp a w)(hd:hI E.nt o=true)(hC:iW P E)(tZ:∀j,j<8->¬al (id+j)){fo:Operand}{args:Array Operand}{uL:Array TypeId}(ho:o.op=.call ⟨.value fo,args,uL⟩)(he:oZ E id o (evA E fr) hp=some (x,u)):Ok P E X w0 al fr hp a w o id x u:=by
 obtain⟨args⟩:=args;unfold oZ effK at he;rw[ho]at he;simp only at he;split at he
 case h_2=>cases he
 rename_i f aXN;have hf:a.eval fo=.func (.func f) #[] #[]:=by
  have hz:=(h.ev fo).1;unfold funOf at aXN;split at aXN
  ·rename_i f' gV;cases aXN;rw[gV]at hz;exact hz.1
  ·cases aXN
 split at he
 ·rename_i gx vs aVN;obtain⟨bKM,he⟩:=Hl he;exact(aKQ h hd hC hf ho aVN bKM he).step
 split at he
 case h_2=>exact eff_callIO h hd hC tZ hf ho ‹_› he
 rename_i bAT;simp only[callK,Ac]at he;generalize keepOf E o=keep at he;split at he
 ·cases he
 ·rename_i ds aRM;split at he
  ·cases he
  ·rename_i gd rs aTX;obtain⟨aRJ,he⟩:=Hl he;cases Qr:bNE rs.length 8 with
   |false=>rw[Qr]at he;cases he
   |true =>
   rw[Qr]at he;simp only[cond_true]at he;have Qr:rs.length<=8:=bOZ Qr;obtain⟨aEU,aEX⟩:=hC.c f ds gd rs bAT aTX aRJ;obtain⟨U,hU⟩:∃U,U=Vc (args.map (evA E fr)):=⟨_,rfl⟩;have aIK:Cons U:=by rw[hU];exact Ru _
   have hY:∀b,XO X ρ (applyUps U hp) b->b<w.heap.size:=by
    rintro b (hb |⟨i,bl,h1,h2⟩)
    ·have:=Old.Qb (h.x0 b hb);have:=h.below.size;omega
    ·have:=h.gZ (fQ aIK h1);omega
   have hG:GlobOk E.glob (XO X ρ (applyUps U hp)) w:=by
    intro g k ns hg;obtain⟨h1,h2,h3⟩:=h.Nh g k ns hg;exact⟨h1,fun ho=>h2 (ho.imp (fun h=>h) (aIM.of_cons aIK)),h3.later (gB.cons aIK)⟩
   have aMT:ds.length=args.length:=by have:=wV aRM;simpa using this
   have aEW:=aEU (XO X ρ (applyUps U hp)) w (args.map a.eval) hY hG (by simp[aMT]) (fun i d v hi hv=>by
    obtain⟨y,aEC,aOL⟩:=Qg aRM i d hi;simp only[bNF,bOF]at aEC hv;obtain⟨z,hz,rfl⟩:=aEC;obtain⟨z',aTI,rfl⟩:=hv;rw[hz]at aTI;cases aTI;have gV:=h.ev z;refine Bz h aIK gV.1 (fun i hi=>?_) aOL;rw[hU];exact Tw (List.mem_map.2 ⟨z,bNK hz,rfl⟩) hi)
   have fH:(execOp a.eval o).run P w=.ok (.enter f (args.map a.eval).toArray) w:=by
    unfold execOp;rw[ho];simp only[resolve,hf,Deferred.ofValue,Sem.run_bind,Sem.run_pure,Result.andThen_ok,invoke];rw[<-aEX];congr 1;simp
   intro next Q hn;unfold Oper.wp;rw[fH];simp only[Oper.upon_enter];refine aEW.mono ?_;rintro e w' ⟨vL,rfl,aPN,g,bAY,aEO,aVB⟩;simp only;obtain⟨U',bLQ,bLM⟩:∃U',Cons U'/\(bif rs.any shares then(List.flatMap refs (args.map (evA E fr))).map fun i=>((i,none):Nat×Option iM)else [])=U'/\(∀i,i∈U'.map (·.1)->i∈U.map (·.1)):=by
    cases bAA:rs.any shares with
    |true=>exact⟨U,aIK,by rw[hU];rfl,fun _ h=>h⟩
    |false=>exact⟨[],(fun p hp=>by cases hp),rfl,fun i hi=>by cases hi⟩
   obtain⟨aPM,hUsub⟩:=bLM;rw[aPM]at he;have h0:=h.cons bLQ;obtain⟨tM,Nb⟩:∃tM,tM=applyUps (takeAll keep id rs).2 (applyUps U' hp):=⟨_,rfl⟩;obtain⟨ρ2,Ar⟩:∃ρ2:Nat->Nat,ρ2=fun j=>if id<=j/\j<id+8 then g (j-id)else ρ j:=⟨_,rfl⟩
   have vY:∀i,al i->¬(id<=i/\i<id+8):=fun i hi hr=>tZ (i-id) (by omega) (by rw[show id+(i-id)=i by omega];exact hi)
   have rZ:∀j,tM j=match (if id<=j then rs[j-id]? else none)with
     |some (.own e k ns)=>if keep=true then some ⟨e,.ints k ns⟩else applyUps U' hp j
     |_=>applyUps U' hp j:=fun j=>by rw[Nb];exact takeAll_ups keep rs id _ j
   have Qo:∀j,¬al j->applyUps U' hp j=none:=by
    intro j hj;cases hq:applyUps U' hp j with
    |none=>rfl
    |some b=>exact absurd (h0.alh j b hq) hj
   have pZ:∀j b,tM j=some b->¬al j->∃e k ns,id<=j/\rs[j-id]?=some (.own e k ns)/\keep=true/\b=⟨e,.ints k ns⟩:=by
    intro j b hj pK;rw[rZ]at hj;split at hj
    ·rename_i e k ns hq;split at hj
     ·rename_i hk;cases hj;split at hq
      ·exact⟨e,k,ns,‹_›,hq,hk,rfl⟩
      ·cases hq
     ·rw[Qo j pK]at hj;cases hj
    ·rw[Qo j pK]at hj;cases hj
   have Nf:=h0.called (ρ':=ρ2) (hp':=tM) (al':=mB al id) aPN (fun _ h=>.inl h)
    (fun i hi=>by
     refine⟨by rw[Ar];simp only;rw[if_neg (vY i hi)],?_⟩;rw[rZ];split
     ·rename_i e k ns hq;split at hq
      ·exact absurd ⟨‹_›,by have:=aR hq;omega⟩ (vY i hi)
      ·cases hq
     ·rfl)
    (fun j b hj pK=>by
     obtain⟨e,k,ns,h1,h2,h3,rfl⟩:=pZ j b hj pK;have iN:=aR h2;obtain⟨v,hv⟩:=aY (l:=vL) (i:=j-id) (by omega);obtain⟨arr,cap,_,yS,hw,h4,aPO,h5,h6⟩:=aVB (j-id) _ v h2 hv;have e1:ρ2 j=g (j-id):=by rw[Ar];simp only;rw[if_pos ⟨h1,by omega⟩]
     exact⟨.inr ⟨h1,by omega⟩,by rw[e1];exact yS,fun Y=>⟨arr,by rw[e1];exact hw,bNX h4 aPO,h6⟩⟩)
    (fun i j b c hi hj bBV bBU e=>by
     obtain⟨e1,k1,Sn,h1,h2,h3,_⟩:=pZ i b hi bBV;obtain⟨e2,k2,bIB,h4,h5,h6,_⟩:=pZ j c hj bBU;have l1:=aR h2;have l2:=aR h5;rw[Ar]at e;simp only at e;rw[if_pos ⟨h1,by omega⟩,if_pos ⟨h4,by omega⟩]at e;have:=aEO _ _ _ _ h2 h5 rfl rfl e;omega)
   obtain⟨Ud,bAQ⟩:=Nf;have aPH:∀{i:Nat} (d:D) (v:Value),rs[i]?=some d->iY d=false->lL (fun b=>XO X ρ (applyUps U hp) b\/∃(j:Nat) (d':D),rs[j]?=some d'/\iY d'=true/\g j=b) w' d v->lL (XO X ρ2 tM) w' d v:=by
    intro i d v hi ho hr;cases bAA:shares d with
    |false=>exact hr.any bAA ho
    |true =>
     have Au:rs.any shares=true:=List.any_eq_true.2 ⟨d,bNK hi,bAA⟩;have bLO:U'=U:=by
      rw[Au]at aPM;rw[<-aPM,hU];rfl
     refine hr.later ⟨bNB _,fun b _ hx=>⟨rfl,fun hb=>hx ?_⟩⟩;rcases hb with hb |⟨j,bl,h7,h8⟩
     ·exact .inl (.inl hb)
     ·by_cases Jp:al j
      ·have h9:applyUps U' hp j=some bl:=by
        rw[<-h7,rZ];split
        ·rename_i e k ns hq;split at hq
         ·exact absurd ⟨‹_›,by have:=aR hq;omega⟩ (vY j Jp)
         ·cases hq
        ·rfl
       have e2:ρ2 j=ρ j:=by rw[Ar];simp only;rw[if_neg (vY j Jp)]
       exact .inl (.inr ⟨j,bl,by rw[<-bLO];exact h9,by rw[<-e2];exact h8⟩)
      ·obtain⟨e,k,ns,h1,h2,h3,rfl⟩:=pZ j bl h7 Jp;have iN:=aR h2;refine .inr ⟨j-id,_,h2,rfl,?_⟩;rw[Ar]at h8;simp only at h8;rw[if_pos ⟨h1,by omega⟩]at h8;exact h8
   have Ue:∀(i:Nat) (d:D) (v:Value),rs[i]?=some d->vL[i]?=some v->Bk ρ2 tM (XO X ρ2 tM) w' (takeIn keep (id+i) d).1 v/\∀j∈refsV (takeIn keep (id+i) d).1,mB al id j:=by
    intro i d v hi hv;have hg:=aVB i d v hi hv;have bKI:=aR hi;cases d with
    |own e k ns =>
     obtain⟨arr,cap,rfl,yS,hw,h4,aPO,h5,h6⟩:=hg;have bAJ:¬X (g i):=fun hx=>by have:=Old.Qb (h.x0 _ hx);have:=h.below.size;omega
     cases keep with
     |true =>
      have e1:ρ2 (id+i)=g i:=by rw[Ar];simp only;rw[if_pos ⟨by omega,by omega⟩];congr 1;omega
      refine⟨⟨cap,by rw[e1],h4,fun blk k1 Sn hb hk=>?_,fun blk cs hb hk=>?_⟩,fun j hj=>?_⟩
      rotate_left
      ·rw[rZ,aT,show id+i-id=i by omega,hi]at hb;simp only[if_true]at hb;cases hb;cases hk
      rotate_left
      ·rw[rZ,aT,show id+i-id=i by omega,hi]at hb;simp only[if_true]at hb;cases hb;cases hk;exact⟨rfl,h5,by rw[e1];unfold jR;rw[hw];exact aPO⟩
      ·simp only[takeIn,cond_true,refsV,refsL,bNS]at hj;subst hj;exact .inr ⟨by omega,by omega⟩
     |false =>
      refine⟨⟨_,cap,rfl,h4,fun j n hj=>⟨g i,0,rfl,(Array.getElem?_eq_some_iff.1 hw).1,?_,?_⟩⟩,fun j hj=>by simp[takeIn,refsV,refsL]at hj⟩
      ·rintro (hx |⟨j',bl,h7,h8⟩)
       ·exact bAJ hx
       ·by_cases Jp:al j'
        ·have:tM j'=applyUps U' hp j':=by
          rw[rZ];split
          ·simp
          ·rfl
         rw[this]at h7;have:=h0.gZ h7;have e2:ρ2 j'=ρ j':=by rw[Ar];simp only;rw[if_neg (vY j' Jp)]
         omega
        ·obtain⟨_,_,_,_,_,hk,_⟩:=pZ j' bl h7 Jp;cases hk
      ·rw[bND,cell_of_row w' (g i) j arr e (0,0) hw];exact h6 j n hj
    |s x=>exact⟨aPH _ v hi rfl hg,fun j hj=>by simp[takeIn,refsV,refsL]at hj⟩
    |rows sz n f=>exact⟨aPH _ v hi rfl hg,fun j hj=>by simp[takeIn,refsV,refsL]at hj⟩
    |agg cs=>exact⟨aPH _ v hi rfl hg,fun j hj=>by simp[takeIn,refsV]at hj⟩
    |io=>exact hg.elim
    |back=>exact hg.elim
   have Dz:(takeAll keep id rs).1.length=vL.length:=by rw[wI];exact bAY
   have hval:∀(i:Nat) (y:V) (v:Value),(takeAll keep id rs).1[i]?=some y->vL[i]?=some v->Bk ρ2 tM (XO X ρ2 tM) w' y v/\∀j∈refsV y,mB al id j:=by
    intro i y v hy hv;obtain⟨d,Ea⟩:=aY (l:=rs) (i:=i) (by have:=aR hv;omega);rw[wJ keep rs id i d Ea]at hy;cases hy;exact Ue i d v Ea hv
   have qB:∀(y:A),vK ρ2 tM (XO X ρ2 tM) w' y (resV vL)->(∀j∈refs y,mB al id j)->some (y,U' ++ (takeAll keep id rs).2)=some (x,u)->next (a.put o.dst (resV vL)) w':=by
    intro y hy aZJ heq;obtain⟨e1,e2⟩:=Prod.mk.inj (Option.some.inj heq);refine hn ρ2 (resV vL) w' ?_;rw[<-e1,<-e2,jE,<-Nb];exact Ud.pure hd hy aZJ
   match aZP:vL,Dz,hval,qB with
   | [v],Dz,hval,qB =>
    match ht:(takeAll keep id rs).1,Dz with
    | [y],_ =>
     rw[ht]at he hval;obtain⟨h1,h2⟩:=hval 0 y v rfl rfl;exact qB (.v y) h1 h2 he
   | [],Dz,hval,qB =>
    match ht:(takeAll keep id rs).1,Dz with
    | [],_ =>
     rw[ht]at he;exact qB (.Iy []) ⟨#[],rfl,rfl,fun i y v hy=>by simp at hy⟩ (by simp[refs]) he
   |v1 :: v2 :: vr,Dz,hval,qB =>
    match ht:(takeAll keep id rs).1,Dz with
    |y1 :: y2 :: yr,Dz =>
     rw[ht]at he hval;refine qB (.Iy (y1 :: y2 :: yr)) ⟨(v1 :: v2 :: vr).toArray,rfl,by simpa using Dz,fun i y v hy hv=>(hval i y v hy (by simpa using hv)).1⟩ ?_ he;intro j hj;obtain⟨y,hy,hj⟩:=List.mem_flatMap.1 hj;obtain⟨i,hi⟩:=bNZ hy;obtain⟨v,hv⟩:=aY (l:=v1 :: v2 :: vr) (i:=i) (by have:=aR hi;omega);exact(hval i y v hi hv).2 j hj
theorem Te(h:gX E X w0 ρ al fr hp a w)(hd:hI E.nt o=true)(hT:mJ P E.T)(hC:iW P E)(tZ:∀j,j<8->¬al (id+j))(he:oZ E id o (evA E fr) hp=some (x,u)):Ok P E X w0 al fr hp a w o id x u:=by
 have yP:=he;unfold oZ effK at he;split at he
 ·exact(Rg h hd (.inl ‹_›) yP).step
 ·exact(Rg h hd (.inr ‹_›) yP).step
 ·exact(aFV h hd ‹_› yP).step
 ·exact(aAN h hd hT tZ ‹_› yP).step
 ·exact(aKR h hd tZ ‹_› yP).step
 ·exact(aAL h hd hT ‹_› yP).step
 ·exact(Hr h hd hT tZ ‹_› yP).step
 ·exact(aFW h hd hT ‹_› yP).step
 ·exact(aAH h hd hT ‹_› yP).step
 ·exact(aAM h hd hT ‹_› yP).step
 ·exact(aFU h hd ‹_› yP).step
 ·exact(Ri h hd hT ‹_› yP).step
 ·exact(Jt h hd hT tZ ‹_› yP).step
 ·exact(aAI h hd hT ‹_› yP).step
 ·exact(Jv h hd hT ‹_› yP).step
 ·exact(aAK h hd hT ‹_› yP).step
 ·exact(Ju h hd hT ‹_› yP).step
 ·exact(aAJ h hd hT ‹_› yP).step
 ·exact(Rh h hd ‹_› yP).step
 ·exact aFY h hd hC tZ ‹_› yP
 ·rename_i b args uL ho;have hb:=he;unfold builtinK at hb;split at hb
  ·exact(aKP h hd hT ho yP).step
  ·exact(Hq h hd (.inl rfl) ho yP).step
  ·exact(Hq h hd (.inr rfl) ho yP).step
  ·exact(Uq h hd hT tZ ho yP).step
  ·exact(aFX h hd hT ho yP).step
  ·cases hb
 ·cases he
end
end AI
namespace AI
open Go Go.RowKit
section
variable {hp hp':Nat->Option iM}
theorem xE{x:A}(h:∀i∈refs x,hp i=hp' i):cellsOf hp x=cellsOf hp' x:=by
 unfold cellsOf;split
 ·rfl
 ·rfl
 ·rw[h _ (by simp[refs,refsV,refsL])]
 ·rw[h _ (by simp[refs,refsV,refsL])]
 ·rfl
theorem Vz{x:A}(h:∀i∈refs x,hp i=hp' i):toD hp x=toD hp' x:=by
 unfold toD;split
 ·rfl
 ·rfl
 ·rfl
 ·rw[h _ (by simp[refs,refsV,refsL])]
 ·rw[h _ (by simp[refs,refsV,refsL])]
 ·rfl
theorem Hb{k:IntKind}{x:A}(h:∀i∈refs x,hp i=hp' i):intsOf hp k x=intsOf hp' k x:=by
 unfold intsOf;split
 ·rfl
 ·rfl
 ·rw[h _ (by simp[refs,refsV,refsL])]
 ·rw[h _ (by simp[refs,refsV,refsL])]
 ·rfl
theorem Aq{R:Type}{t:TI}{nV:Nat}{x:A}{n:Int}{K:A->Option R}(h:∀i∈refs x,hp i=hp' i):idxK hp t nV x n K=idxK hp' t nV x n K:=by
 unfold idxK;split
 ·rfl
 ·rw[h _ (by simp[refs,refsV,refsL])]
 ·rw[h _ (by simp[refs,refsV,refsL])]
 ·rfl
 ·rfl
 ·rfl
 ·rfl
theorem aEA{R:Type}{sh:Bool}{t:TI}{nV:Nat}{x:A}{n:Int}{K:A->Option R}(h:∀i∈refs x,hp i=hp' i):Mv sh hp t nV x n K=Mv sh hp' t nV x n K:=by
 unfold Mv;split
 ·rw[h _ (by simp[refs,refsV,refsL])];simp only[Aq h]
 ·exact Aq h
theorem Mr{xs:List A}(h:∀x∈xs,∀i∈refs x,hp i=hp' i):xs.mapM (toD hp)=xs.mapM (toD hp'):=by
 induction xs with
 |nil=>rfl
 |cons x xs ih=>rw[bOI,bOI,Vz (h x (by simp)),ih (fun y hy=>h y (by simp[hy]))]
theorem Cw{R:Type}{place:Nat->Option (Nat×Nat)}{ev Jr:Operand->A}{parts:List (Nat×Operand)}{cs:List S}{u:oC}{K:List S->oC->Option R}
  (he:∀p∈parts,ev p.2=Jr p.2) (h:∀p∈parts,∀i∈refs (ev p.2),hp i=hp' i):fillK hp place ev parts cs u K=fillK hp' place Jr parts cs u K:=by
 induction parts generalizing cs u with
 |nil=>rfl
 |cons p rest ih =>
  obtain⟨i,y⟩:=p;have e1:ev y=Jr y:=he (i,y) (by simp);have e2:cellsOf hp (ev y)=cellsOf hp' (Jr y):=by rw[xE (h (i,y) (by simp)),e1]
  simp only[fillK,e2];split
  ·split
   ·exact ih (fun p hp=>he p (by simp[hp])) (fun p hp=>h p (by simp[hp]))
   ·rfl
  ·rfl
end
theorem aAS{R:Type}{E:Env}{id:Nat}{keep:Bool}{f:FuncId}{args:List A}{hp hp':Nat->Option iM}{K:A->oC->Option R}(h:∀x∈args,∀i∈refs x,hp i=hp' i) :
  callK E id keep f args hp K=callK E id keep f args hp' K:=by
 unfold callK;rw[Mr h]
theorem aBX{hp hp':Nat->Option iM}{x:A}(h:∀i∈refs x,hp i=hp' i):toIO hp x=toIO hp' x:=by
 unfold toIO;split
 ·rw[h _ (by simp[refs,refsV,refsL])]
 ·rw[h _ (by simp[refs,refsV,refsL])]
 ·rfl
theorem Ia{hp hp':Nat->Option iM}(ps:List Nat):∀{args:List A} (i:Nat),(∀x∈args,∀i∈refs x,hp i=hp' i)->argsIO ps hp i args=argsIO ps hp' i args
 | [],_,_=>rfl
 |x :: args,i,h=>by
  unfold argsIO;rw[aBX (h x (by simp)),Vz (h x (by simp)),Ia ps (i+1) (fun y hy=>h y (by simp[hy]))]
theorem Uw{R:Type}{E:Env}{ps:List Nat}{id:Nat}{keep:Bool}{f:FuncId}{args:List A}{hp hp':Nat->Option iM}{K:A->oC->Option R}(h:∀x∈args,∀i∈refs x,hp i=hp' i) :
  callIO E ps id keep f args hp K=callIO E ps id keep f args hp' K:=by
 unfold callIO;rw[Ia ps 0 h]
theorem Og{R:Type}{n0 id:Nat}{e:TypeId}{te:TI}{s x:A}{hp hp':Nat->Option iM}{K:A->oC->Option R}(hs:∀i∈refs s,hp i=hp' i)(hx:∀i∈refs x,hp i=hp' i) :
  nO n0 id e te s x hp K=nO n0 id e te s x hp' K:=by
 unfold nO;split
 ·rw[hx _ (by simp[refs,refsV,refsL])];split
  ·split
   ·split
    ·rw[hs _ (by simp[refs,refsV,refsL])]
    ·rfl
    ·rfl
   ·rfl
  ·rfl
 ·rfl
theorem Oa{R:Type}{E:Env}{id:Nat}{b:Builtin}{args:List A}{uL:List TypeId}{hp hp':Nat->Option iM}{K:A->oC->Option R}(h:∀x∈args,∀i∈refs x,hp i=hp' i) :
  builtinK E id b args uL hp K=builtinK E id b args uL hp' K:=by
 unfold builtinK;split
 ·rfl
 ·rfl
 ·rfl
 ·rename_i s x t t';split
  ·split
   ·split
    ·split
     ·rw[Hb (h x (by simp))];split
      ·rename_i i n ms hq;rw[h (.v (.one (.buf i n))) (by simp) i (by simp[refs,refsV,refsL])]
      ·rfl
      ·rfl
     ·rfl
    ·exact Og (h s (by simp)) (h x (by simp))
    ·rfl
   ·rfl
  ·rfl
 ·rename_i d s t t';split
  ·split
   ·rw[Hb (h s (by simp))];split
    ·rename_i i n ms hq;rw[h (.v (.one (.buf i n))) (by simp) i (by simp[refs,refsV,refsL])]
    ·rename_i i off n ms hq;rw[h (.v (.one (.view i off n))) (by simp) i (by simp[refs,refsV,refsL])]
    ·rfl
   ·rfl
  ·rfl
 ·rfl
theorem tH{α β:Type}{f g:α->β}{o:Option α}(h:∀x,o=some x->f x=g x):o.map f=o.map g:=by
 cases o with
 |none=>rfl
 |some x=>simp[h x rfl]
theorem aFZ{R:Type}{E:Env}{id:Nat}{o:Oper}{ev Jr:Operand->A}{hp hp':Nat->Option iM}{K:A->oC->Option R}(he:∀x,x∈o.op.operands.toList->ev x=Jr x)(h:∀x,x∈o.op.operands.toList->∀i∈refs (ev x),hp i=hp' i) :
  effK E id o ev hp K=effK E id o Jr hp' K:=by
 unfold effK;split <;> rename_i ho <;> (try rw[ho]at he h)
 ·rw[he _ (by simp[Op.operands])]
 ·rw[he _ (by simp[Op.operands])]
 ·rw[he _ (by simp[Op.operands]),he _ (by simp[Op.operands]),he _ (by simp[Op.operands])]
 ·rw[xE (h _ (by simp[Op.operands])),he _ (by simp[Op.operands])]
 ·have e1:∀p∈(‹Array (Nat×Operand)›).toList,p.2∈(‹Array (Nat×Operand)›).toList.map (·.2):=fun p hp=>List.mem_map.2 ⟨p,hp,rfl⟩
  split
  ·exact Cw (fun p hp=>he _ (by simpa [Op.operands] using e1 p hp)) (fun p hp=>h _ (by simpa [Op.operands] using e1 p hp))
  ·exact Cw (fun p hp=>he _ (by simpa [Op.operands] using e1 p hp)) (fun p hp=>h _ (by simpa [Op.operands] using e1 p hp))
  ·rfl
 ·have e1:∀p∈(‹Array (Nat×Operand)›).toList,p.2∈(‹Array (Nat×Operand)›).toList.map (·.2):=fun p hp=>List.mem_map.2 ⟨p,hp,rfl⟩
  split
  ·split
   ·split
    ·exact Cw (fun p hp=>he _ (by simpa [Op.operands] using e1 p hp)) (fun p hp=>h _ (by simpa [Op.operands] using e1 p hp))
    ·rfl
   ·rfl
  ·rfl
 ·rename_i t y;have e1:ev y=Jr y:=he _ (by simp[Op.operands]);have e2:=h y (by simp[Op.operands]);split
  ·rw[<-e1];split
   ·rename_i i off gV;rw[e2 i (by rw[gV];simp[refs,refsV,refsL])]
   ·rename_i i j gV;rw[e2 i (by rw[gV];simp[refs,refsV,refsL])]
   ·rfl
   ·rfl
  ·rfl
 ·rename_i t y z;have e1:ev y=Jr y:=he _ (by simp[Op.operands]);have e3:ev z=Jr z:=he _ (by simp[Op.operands]);have e2:=h y (by simp[Op.operands]);have e4:cellsOf hp (ev z)=cellsOf hp' (Jr z):=by rw[xE (h z (by simp[Op.operands])),e3]
  split
  ·rw[<-e1,e4,<-e3];split
   ·rename_i i off gV;rw[e2 i (by rw[gV];simp[refs,refsV,refsL])]
   ·rename_i i j gV;rw[e2 i (by rw[gV];simp[refs,refsV,refsL])]
   ·rfl
  ·rfl
 ·rw[he _ (by simp[Op.operands]),he _ (by simp[Op.operands])]
 ·rw[he _ (by simp[Op.operands])]
 ·rw[he _ (by simp[Op.operands])]
 ·rw[he _ (by simp[Op.operands]),he _ (by simp[Op.operands])]
 ·rename_i t y lo hi mx;have e1:ev y=Jr y:=he _ (by simp[Op.operands]);have e2:lo.map ev=lo.map Jr:=tH fun x hx=>he x (by subst hx;simp[Op.operands])
  have e3:hi.map ev=hi.map Jr:=tH fun x hx=>he x (by subst hx;simp[Op.operands])
  have e4:mx.map ev=mx.map Jr:=tH fun x hx=>he x (by subst hx;simp[Op.operands])
  rw[e1,e2,e3,e4]
 ·rw[he _ (by simp[Op.operands])]
 ·rw[he _ (by simp[Op.operands])]
 ·rename_i t y z;have e1:ev y=Jr y:=he _ (by simp[Op.operands]);have e3:ev z=Jr z:=he _ (by simp[Op.operands]);have e2:=h y (by simp[Op.operands]);rw[<-e1,e3];split
  ·split
   ·split
    ·split
     ·rfl
     ·rfl
     ·exact aEA e2
    ·rfl
   ·split
    ·rename_i gV;exact Aq (by rw[gV]at e2;exact e2)
    ·exact Aq (by intro i hi;cases hi)
    ·rfl
   ·rfl
  ·rfl
 ·rw[he _ (by simp[Op.operands]),he _ (by simp[Op.operands])]
 ·rw[he _ (by simp[Op.operands])]
 ·rename_i f args uL;have e1:args.toList.map ev=args.toList.map Jr:=bOR fun x hx=>he x (by simp[Op.operands,Call.operands];exact .inr (by simpa using hx))
  have e0:ev f=Jr f:=he f (by simp[Op.operands,Call.operands]);rw[e0,e1];split
  ·split
   ·rfl
   ·have hx:∀x∈args.toList.map Jr,∀i∈refs x,hp i=hp' i:=by
     intro x hx i hi;rw[<-e1]at hx;obtain⟨y,hy,rfl⟩:=List.mem_map.1 hx;exact h y (by simp[Op.operands,Call.operands];exact .inr (by simpa using hy)) i hi
    split
    ·exact aAS hx
    ·exact Uw hx
  ·rfl
 ·rename_i b args uL;have e1:args.toList.map ev=args.toList.map Jr:=bOR fun x hx=>he x (by simpa [Op.operands,Call.operands] using hx)
  rw[e1];refine Oa ?_;intro x hx i hi;rw[<-e1]at hx;obtain⟨y,hy,rfl⟩:=List.mem_map.1 hx;exact h y (by simpa [Op.operands,Call.operands] using hy) i hi
 ·rfl
end AI
namespace AI
open Go Go.RowKit
inductive Gd where
 |run
 |skip
 |bad
def gd(ops:Array Oper)(o:Oper)(fr:Nat->A):Gd :=
 match o.guard with
 |none=>.run
 |some (j,want)=>match (ops[j]?).bind (·.dst)with
  |some d=>match fr d with
   | .v (.one (.s (.sc (.bool b))))=>if b=want then .run else .skip
   | .Iy []=>.skip
   |_=>.bad
  |none=>.bad
structure Dt where
 i:Nat
 o:Oper
 x:A
 u:oC
 t:List Nat
def vV(E:Env)(ops:Array Oper)(base:Nat)(d:Dt)(st eN:St):Prop :=
 ops[d.i]?=some d.o/\hI E.nt d.o=true /\
  ((gd ops d.o st.fr=.run/\oZ E (base+8*d.i) d.o (evA E st.fr) st.hp=some (d.x,d.u)/\d.t=qP d.o (evA E st.fr) d.u)\/(gd ops d.o st.fr=.skip/\d.x=.Iy []/\d.u=[]/\d.t=[])) /\
  eN=after d.o st d.x d.u
def vI(E:Env)(ops:Array Oper)(base:Nat):List Dt->St->St->Prop
 | [],st,eN=>st=eN
 |d :: l,st,eN=>∃st1,vV E ops base d st st1/\vI E ops base l st1 eN
def Dt.told(d:Dt):Rec:=⟨d.i,d.o,d.t,d.u.map (·.1)⟩
def zN(ops:Array Oper)(d d':Dt):Prop:=indep ops d.told d'.i d'.o d'.t (d'.u.map (·.1))=true
theorem iI{R:Type}(len:Nat)(lo hi mx:Option A)(K:Nat->Nat->Option R):sliceK len lo hi mx K=(sliceK len lo hi mx fun l h=>some (l,h)).bind fun p=>K p.1 p.2:=by
 unfold sliceK;split
 ·split <;> rfl
 ·split
  ·split <;> rfl
  ·rfl
 ·rfl
theorem Dv{R S:Type}(n:Int)(f:Nat->S)(K:S->Option R):∀m j:Nat,splitN n m j (fun i=>K (f i))=(splitN n m j (fun i=>some (f i))).bind K
 |0,_=>rfl
 |m+1,j=>by
  unfold splitN;cases decide (n=(j:Int))with
  |true=>rfl
  |false=>exact Dv n f K m (j+1)
theorem oN{R:Type}(hp:Nat->Option iM)(t:TI)(nV:Nat)(x:A)(n:Int)(K:A->Option R):idxK hp t nV x n K=(idxK hp t nV x n some).bind K:=by
 unfold idxK;split
 ·split
  ·split <;> rfl
  ·rfl
 ·split
  ·split
   ·split <;> rfl
   ·rfl
  ·split <;> rfl
  ·rfl
 ·split
  ·split
   ·split <;> rfl
   ·rfl
  ·rfl
 ·split
  ·split <;> rfl
  ·rfl
 ·split
  ·rename_i id off x len esz' g hk;cases bNE len 8 with
   |true=>exact Dv n (fun j=>A.v (V.one (L.ptr id (off+j*nV)))) K len 0
   |false =>
    simp only[cond_false];split <;> rfl
  ·rfl
 ·split
  ·split
   ·split <;> rfl
   ·rfl
  ·rfl
 ·rfl
theorem Aa{R S:Type}(n:Int){F:Nat->Option R}{G:Nat->Option S}(K:S->Option R)(h:∀j,F j=(G j).bind K):∀m j:Nat,splitN n m j F=(splitN n m j G).bind K
 |0,_=>rfl
 |m+1,j=>by
  unfold splitN;cases decide (n=(j:Int))with
  |true=>exact h j
  |false=>exact Aa n K h m (j+1)
theorem Kw{R:Type}(sh:Bool)(hp:Nat->Option iM)(t:TI)(nV:Nat)(x:A)(n:Int)(K:A->Option R):Mv sh hp t nV x n K=(Mv sh hp t nV x n some).bind K:=by
 unfold Mv;split
 ·split
  ·exact Aa n K (fun j=>oN ..) _ 0
  ·exact oN ..
 ·exact oN ..
theorem Uv{R:Type}(E:Env)(id:Nat)(keep:Bool)(f:FuncId)(args:List A)(hp:Nat->Option iM)(K:A->oC->Option R):callK E id keep f args hp K=(callK E id keep f args hp fun a u=>some (a,u)).bind fun p=>K p.1 p.2:=by
 unfold callK;split
 ·rfl
 ·split
  ·rfl
  ·rename_i g rs _;unfold aQ;simp only[Ac];split
   ·cases bNE rs.length 8 with
    |false=>rfl
    |true =>
     simp only[cond_true];split <;> rfl
   ·rfl
theorem Rp{R:Type}(E:Env)(ps:List Nat)(id:Nat)(keep:Bool)(f:FuncId)(args:List A)(hp:Nat->Option iM)(K:A->oC->Option R):callIO E ps id keep f args hp K=(callIO E ps id keep f args hp fun a u=>some (a,u)).bind fun p=>K p.1 p.2:=by
 unfold callIO;split
 ·rfl
 ·generalize (leqN _ _&&_)=bb;cases bb with
  |false=>rfl
  |true =>
   simp only[cond_true];split
   ·rfl
   ·unfold aQ;simp only[Ac];split
    ·generalize (bNE _ _&&_&&_)=b2;cases b2 with
     |false=>rfl
     |true =>
      simp only[cond_true];split
      ·rfl
      ·split <;> rfl
    ·rfl
theorem Ke{R:Type}(n0 id:Nat)(e:TypeId)(te:TI)(s x:A)(hp:Nat->Option iM)(K:A->oC->Option R):nO n0 id e te s x hp K=(nO n0 id e te s x hp fun a u=>some (a,u)).bind fun p=>K p.1 p.2:=by
 unfold nO;split
 ·split
  ·split
   ·split
    ·split
     ·split <;> rfl
     ·rfl
    ·split <;> rfl
    ·rfl
   ·rfl
  ·rfl
 ·rfl
theorem Kb{R:Type}(E:Env)(id:Nat)(b:Builtin)(args:List A)(uL:List TypeId)(hp:Nat->Option iM)(K:A->oC->Option R):builtinK E id b args uL hp K=(builtinK E id b args uL hp fun a u=>some (a,u)).bind fun p=>K p.1 p.2:=by
 unfold builtinK;split
 ·split <;> rfl
 ·split <;> rfl
 ·split <;> rfl
 ·split
  ·split
   ·split
    ·split
     ·split
      ·split
       ·generalize bNM _ _=bb;cases bb with
        |true=>rfl
        |false =>
         simp only[cond_false];split
         ·split <;> rfl
         ·rfl
       ·rfl
      ·split <;> rfl
      ·rfl
     ·rfl
    ·exact Ke ..
    ·rfl
   ·rfl
  ·rfl
 ·split
  ·split
   ·split
    ·split
     ·split <;> rfl
     ·rfl
    ·split
     ·split <;> rfl
     ·rfl
    ·rfl
   ·rfl
  ·rfl
 ·rfl
theorem mZ {R : Type} (E : Env) (id : Nat) (o : Oper) (ev : Operand → A) (hp : Nat → Option iM) (K : A → oC → Option R) : effK E id o ev hp K = (oZ E id o ev hp).bind fun p => K p.1 p.2 := by
  unfold oZ effK
  split
  · rfl
  · rfl
  · split
    · split
      · rfl
      · rename_i t _ _ _ _; cases t <;> rfl
    · rfl
  · split <;> rfl
  · split
    · split <;> rfl
    · rfl
  · split
    · rw [kG]; conv => rhs; rw [kG]
      rw [bNJ]; rfl
    · rw [kG]; conv => rhs; rw [kG]
      rw [bNJ]; rfl
    · rfl
  · split
    · split
      · split
        · rw [kG]; conv => rhs; rw [kG]
          rw [bNJ]
          congr 1
          funext r
          split
          · split <;> rfl
          · rfl
        · rfl
      · rfl
    · rfl
  · split
    · split
      · split
        · split <;> rfl
        · rfl
      · split <;> rfl
      · split <;> rfl
      · rfl
    · rfl
  · split
    · split
      · split
        · split <;> rfl
        · rfl
      · split
        · split <;> rfl
        · rfl
      · rfl
    · rfl
  · split
    · generalize boolT _ _ = bb
      cases bb with
      | true => simp only [cond_true]; rw [Dd]; conv => rhs; rw [Dd]
                rw [bNJ]; rfl
      | false => rfl
    · split
      · split <;> rfl
      · rfl
    · rfl
  · split
    · rw [Fw]; conv => rhs; rw [Fw]
      rw [bNJ]; rfl
    · rfl
  · split
    · rw [zI]; conv => rhs; rw [zI]
      rw [bNJ]; rfl
    · rfl
  · split
    · split
      · split
        · split <;> rfl
        · rfl
      · rfl
    · rfl
  · split
    · split
      · split
        · split
          · rw [iI]; conv => rhs; rw [iI]
            rw [bNJ]; rfl
          · rfl
        · rw [iI]; conv => rhs; rw [iI]
          rw [bNJ]; rfl
        · rw [iI]; conv => rhs; rw [iI]
          rw [bNJ]; rfl
        · rw [iI]; conv => rhs; rw [iI]
          rw [bNJ]; rfl
        · rfl
      · split
        · split
          · rw [iI]; conv => rhs; rw [iI]
            rw [bNJ]; rfl
          · rfl
        · rfl
      · rfl
    · rfl
  · split
    · split
      · split <;> rfl
      · split <;> rfl
      · rfl
    · rfl
  · split
    · split
      · split <;> rfl
      · rfl
    · rfl
  · split
    · split
      · split
        · split
          · rfl
          · rfl
          · rw [Kw]; conv => rhs; rw [Kw]
            rw [bNJ]; rfl
        · rfl
      · split
        · rw [oN]; conv => rhs; rw [oN]
          rw [bNJ]; rfl
        · rw [oN]; conv => rhs; rw [oN]
          rw [bNJ]; rfl
        · rfl
      · rfl
    · rfl
  · split
    · split
      · split <;> rfl
      · rfl
    · split <;> rfl
    · rfl
  · split
    · split <;> rfl
    · rfl
  · split
    · split
      · unfold aQ
        split <;> rfl
      · split
        · exact Uv _ _ _ _ _ _ _
        · exact Rp _ _ _ _ _ _ _ _
    · rfl
  · exact Kb _ _ _ _ _ _ _
  · rfl
theorem Vv(fr:Nat->A)(d:Nat)(b:Bool)(h:fr d=yN (.bool b)):xU fr d (yN (.bool b))=fr:=Pl fr d _ h
theorem Kq{R:Type}(E:Env)(draw:Bool)(ops:Array Oper)(base:Nat)(K:St->Option R)(r:R):∀(l:List Oper) (i:Nat) (mL:List Rec) (st:St),
  (∀(k:Nat) (o:Oper),l[k]?=some o->ops[i+k]?=some o)->opsK E draw ops base l i mL st K=some r ->
  ∃ds eN,K eN=some r/\vI E ops base ds st eN/\ds.map (·.i)=List.range' i l.length /\
   (draw=true->(∀rc∈mL,∀d∈ds,indep ops rc d.i d.o d.t (d.u.map (·.1))=true)/\bPA (zN ops) ds/\∀d∈ds,vC d.i d.o=true)
 | [],i,mL,st,_,h=>⟨[],st,h,rfl,rfl,fun _=>⟨fun _ _ _ hd=>(by cases hd),List.Pairwise.nil,fun _ hd=>(by cases hd)⟩⟩
 |o :: l,i,mL,st,hl,h=>by
  have hi:ops[i]?=some o:=by simpa using hl 0 o rfl
  have aXK:∀(k:Nat) (o':Oper),l[k]?=some o'->ops[i+1+k]?=some o':=fun k o' hk=>by have:=hl (k+1) o' (by simpa using hk);rwa [show i+(k+1)=i+1+k by omega]at this
  unfold opsK at h;cases bBF:hI E.nt o&&(!draw||vC i o)with
  |false=>rw[bBF]at h;cases h
  |true =>
   rw[bBF]at h;simp only[cond_true]at h;obtain⟨Zx,aXP⟩:=(bNH _ _).mp bBF;have go:∀(x:A) (u:oC) (t:List Nat),vV E ops base ⟨i,o,x,u,t⟩ st (after o st x u) ->
     (bif !draw||mL.all fun r=>indep ops r i o t (u.map (·.1))then opsK E draw ops base l (i+1) (⟨i,o,t,u.map (·.1)⟩ :: mL) (after o st x u) K else none)=some r ->
     ∃ds eN,K eN=some r/\vI E ops base ds st eN/\ds.map (·.i)=List.range' i (o :: l).length /\
      (draw=true->(∀rc∈mL,∀d∈ds,indep ops rc d.i d.o d.t (d.u.map (·.1))=true)/\bPA (zN ops) ds/\∀d∈ds,vC d.i d.o=true):=by
    intro x u t hs hk;cases hc:!draw||mL.all fun r=>indep ops r i o t (u.map (·.1))with
    |false=>rw[hc]at hk;cases hk
    |true =>
     rw[hc]at hk;simp only[cond_true]at hk;obtain⟨ds,eN,h1,h2,h3,h4⟩:=Kq E draw ops base K r l (i+1) _ _ aXK hk;refine⟨⟨i,o,x,u,t⟩ :: ds,eN,h1,⟨_,hs,h2⟩,by simp[h3,List.range'_succ],fun Zy=>?_⟩;obtain⟨h5,h6,h7⟩:=h4 Zy;subst Zy;simp only[bPB,bPC]at hc aXP;refine⟨fun rc bFB d hd=>?_,List.pairwise_cons.2 ⟨fun d hd=>(show indep ops ⟨i,o,t,u.map (·.1)⟩ d.i d.o d.t (d.u.map (·.1))=true from h5 _ (bNI ..) d hd),h6⟩,fun d hd=>?_⟩
     ·rcases List.mem_cons.1 hd with rfl |hd
      ·exact List.all_eq_true.1 hc rc bFB
      ·exact h5 rc (by simp[bFB]) d hd
     ·rcases List.mem_cons.1 hd with rfl |hd
      ·exact aXP
      ·exact h7 d hd
   split at h
   ·rename_i hg;rw[mZ]at h;obtain⟨⟨x,u⟩,he,h⟩:=Option.bind_eq_some_iff.1 h;exact go x u _ ⟨hi,Zx,.inl ⟨by unfold gd;rw[hg],he,rfl⟩,rfl⟩ h
   ·rename_i j want hg;split at h
    ·rename_i d hd;split at h
     ·rename_i b hb;have e0:xU st.fr d (yN (.bool b))=st.fr:=Vv st.fr d b hb;have aRJ:∀w,(b==want)=w->gd ops o st.fr=if w=true then .run else .skip:=by
       intro w hw;unfold gd;rw[hg];simp only[hd,hb];subst hw
       by_cases aKD:b=want <;> simp[aKD]
      have key:(bif b==want then
        effK E (base+8*i) o (evA E st.fr) st.hp fun a u =>
         bif !draw||mL.all fun r=>indep ops r i o (qP o (evA E st.fr) u) (u.map (·.1))then opsK E draw ops base l (i+1) (⟨i,o,qP o (evA E st.fr) u,u.map (·.1)⟩ :: mL) (after o st a u) K else none
       else bif !draw||mL.all fun r=>indep ops r i o [] []then opsK E draw ops base l (i+1) (⟨i,o,[],[]⟩ :: mL) (after o st (.Iy []) []) K else none)=some r:=by
       cases b
       ·simp only[cond_false,e0]at h;exact h
       ·simp only[cond_true,e0]at h;exact h
      cases aKD:b==want with
      |true =>
       rw[aKD]at key;simp only[cond_true]at key;rw[mZ]at key;obtain⟨⟨x,u⟩,he,key⟩:=Option.bind_eq_some_iff.1 key;exact go x u _ ⟨hi,Zx,.inl ⟨by rw[aRJ true aKD];rfl,he,rfl⟩,rfl⟩ key
      |false =>
       rw[aKD]at key;simp only[cond_false]at key;exact go (.Iy []) [] [] ⟨hi,Zx,.inr ⟨by rw[aRJ false aKD];rfl,rfl,rfl,rfl⟩,rfl⟩ key
     ·rename_i hb;exact go (.Iy []) [] [] ⟨hi,Zx,.inr ⟨by unfold gd;rw[hg];simp only[hd,hb],rfl,rfl,rfl⟩,rfl⟩ h
     ·cases h
    ·cases h
end AI
namespace AI
open Go Go.RowKit
theorem yE{xs ys:List Nat}(h:Jx xs ys=true){i:Nat}(hx:i∈xs):i ∉ ys:=by
 intro hy;have:=List.all_eq_true.1 h i hx;simp at this;exact this hy
theorem gH{u:oC}{hp:Nat->Option iM}{i:Nat}(h:i ∉ u.map (·.1)):applyUps u hp i=hp i:=by
 induction u generalizing hp with
 |nil=>rfl
 |cons p u ih =>
  obtain⟨j,b⟩:=p;simp only[bNA,bOH,not_or]at h;rw[applyUps,ih h.2,eK _ _ h.1]
theorem yV{u:oC}{hp hp':Nat->Option iM}{i:Nat}(h:i∈u.map (·.1)):applyUps u hp i=applyUps u hp' i:=by
 induction u generalizing hp hp' with
 |nil=>cases h
 |cons p u ih =>
  obtain⟨j,b⟩:=p;simp only[applyUps]
  by_cases hi:i∈u.map (·.1)
  ·exact ih hi
  ·have e:i=j:=by simpa [hi] using h
   subst e;rw[gH hi,gH hi,bD,bD]
theorem Kd{u v:oC}{hp:Nat->Option iM}(h:Jx (u.map (·.1)) (v.map (·.1))=true):applyUps u (applyUps v hp)=applyUps v (applyUps u hp):=by
 funext i
 by_cases hu:i∈u.map (·.1)
 ·have hv:i ∉ v.map (·.1):=yE h hu;rw[gH hv];exact yV hu
 ·rw[gH hu]
  by_cases hv:i∈v.map (·.1)
  ·exact yV hv
  ·rw[gH hv,gH hv,gH hu]
theorem aJI{o:Oper}{x:A}{fr:Nat->A}{t:Nat}(h:o.dst≠some t):zE o x fr t=fr t:=by
 unfold zE;cases hd:o.dst with
 |some d=>exact eK _ _ (fun e=>h (by rw[hd,e]))
 |none=>rfl
theorem Ze{o o':Oper}{x x':A}{fr:Nat->A}(h:∀d,o.dst=some d->o'.dst≠some d):zE o x (zE o' x' fr)=zE o' x' (zE o x fr):=by
 unfold zE;cases hd:o.dst with
 |none=>rfl
 |some d =>
  cases Ea:o'.dst with
  |none=>rfl
  |some d' =>
   have Br:d≠d':=fun e=>h d hd (by rw[Ea,e])
   funext t;simp only
   by_cases h1:t=d
   ·subst h1;rw[bD,eK _ _ Br,bD]
   ·rw[eK _ _ h1]
    by_cases h2:t=d'
    ·subst h2;rw[bD,bD]
    ·rw[eK _ _ h2,eK _ _ h2,eK _ _ h1]
def aQY(ops:Array Oper)(p q:Dt):Prop:=p.o.apart ops q.o=true/\Jx (p.u.map (·.1)) q.t=true/\Jx (q.u.map (·.1)) p.t=true
theorem aQY.symm{ops:Array Oper}{p q:Dt}(h:aQY ops p q):aQY ops q p:=by
 refine⟨?_,h.2.2,h.2.1⟩;obtain⟨h1,h2,h3⟩:=Oper.apart_spec h.1;unfold Oper.apart;rw[bNH];constructor
 ·cases hq:q.o.dst with
  |none=>rfl
  |some d =>
   simp only[bNH,bOJ,bne_iff_ne,ne_eq];refine⟨by simpa using h3 d hq,fun hp=>?_⟩;exact h2 d hp hq
 ·cases hp:p.o.dst with
  |none=>rfl
  |some d=>simpa using h1 d hp
section
variable {E:Env} {ops:Array Oper} {base:Nat}
theorem Mq{o:Oper}{t:Tmp}(h:Operand.tmp t∈o.op.operands.toList):t∈o.looksAt ops:=by
 unfold Oper.looksAt;exact List.mem_append.2 (.inl (List.mem_filterMap.2 ⟨_,h,rfl⟩))
theorem aFN{fr aRS:Nat->A}{o:Oper}(h:∀t,t∈o.looksAt ops->fr t=aRS t){x:Operand}(hx:x∈o.op.operands.toList):evA E fr x=evA E aRS x:=by
 cases x with
 |tmp t=>exact h t (Mq hx)
 |_=>rfl
theorem Xx{fr aRS:Nat->A}{o:Oper}(h:∀t,t∈o.looksAt ops->fr t=aRS t):gd ops o fr=gd ops o aRS:=by
 unfold gd;cases hg:o.guard with
 |none=>rfl
 |some p =>
  obtain⟨j,want⟩:=p;simp only;cases hd:(ops[j]?).bind (·.dst)with
  |none=>rfl
  |some d =>
   have:fr d=aRS d:=h d (by
    unfold Oper.looksAt;rw[hg];exact List.mem_append.2 (.inr (by simp[hd])))
   simp only[this]
theorem vV.same{p:Dt}{st st1:St}(aRK:∀t,t∈p.o.looksAt ops->st.fr t=st1.fr t)(Qt:∀i,i∈p.t->st.hp i=st1.hp i){aWX:St}(h:vV E ops base p st1 aWX):vV E ops base p st (after p.o st p.x p.u):=by
 obtain⟨h1,h2,h3,_⟩:=h;refine⟨h1,h2,?_,rfl⟩;rcases h3 with ⟨hg,he,ht⟩ |⟨hg,hx,hu,ht⟩
 ·have gV:∀x,x∈p.o.op.operands.toList->evA E st1.fr x=evA E st.fr x:=fun x hx=>(aFN (ops:=ops) aRK hx).symm
  refine .inl ⟨by rw[Xx (ops:=ops) aRK];exact hg,?_,?_⟩
  ·rw[<-he];exact(aFZ gV (fun x hx i hi=>(Qt i (by rw[ht];exact List.mem_append.2 (.inl (List.mem_flatMap.2 ⟨x,hx,hi⟩)))).symm)).symm
  ·rw[ht];unfold qP;congr 1;rw[bPW,bPW];congr 1;exact bOR fun x hx=>by rw[gV x hx]
 ·exact .inr ⟨by rw[Xx (ops:=ops) aRK];exact hg,hx,hu,ht⟩
theorem yW{q:Dt}{st:St}{o:Oper}(h:∀d,q.o.dst=some d->d ∉ o.looksAt ops):∀t,t∈o.looksAt ops->st.fr t=(after q.o st q.x q.u).fr t:=by
 intro t ht;exact(aJI (fun e=>h t e ht)).symm
theorem aBR{p:Dt}{st eN:St}(h:vV E ops base p st eN):∀i,i∈p.u.map (·.1)->i∈p.t:=by
 intro i hi;obtain⟨_,_,h3,_⟩:=h;rcases h3 with ⟨_,_,ht⟩ |⟨_,_,hu,_⟩
 ·rw[ht];exact List.mem_append.2 (.inr hi)
 ·rw[hu]at hi;cases hi
theorem vI.swap{p q:Dt}{l:List Dt}{st aSJ:St}(hi:aQY ops q p)(h:vI E ops base (q :: p :: l) st aSJ):vI E ops base (p :: q :: l) st aSJ:=by
 obtain⟨st1,hq,aWX,hp,hl⟩:=h;obtain⟨a1,a2,a3⟩:=Oper.apart_spec hi.1;have e1:st1=after q.o st q.x q.u:=hq.2.2.2;have e2:aWX=after p.o st1 p.x p.u:=hp.2.2.2;have hp':vV E ops base p st (after p.o st p.x p.u):=by
  refine vV.same (st1:=st1) ?_ ?_ hp
  ·rw[e1];exact yW a1
  ·intro i Xp;rw[e1];exact(gH (fun hm=>yE hi.2.1 hm Xp)).symm
 have Xm:vV E ops base q (after p.o st p.x p.u) (after q.o (after p.o st p.x p.u) q.x q.u):=by
  refine vV.same (st1:=st) ?_ ?_ hq
  ·intro t ht;exact(yW a3 t ht).symm
  ·intro i Xp;exact gH (fun hm=>yE hi.2.2 hm Xp)
 have e3:after q.o (after p.o st p.x p.u) q.x q.u=aWX:=by
  rw[e2,e1];unfold after;simp only;rw[Ze (o:=q.o) (o':=p.o) (fun d hd=>a2 d hd),Kd];have hu:=aBR hp;unfold Jx;rw[List.all_eq_true];intro i Xp;have:=yE hi.2.1 Xp;simp only[bOJ,List.elem_eq_mem,decide_eq_false_iff_not];exact fun hm=>this (hu i hm)
 exact⟨_,hp',_,Xm,by rw[e3];exact hl⟩
theorem vI.front{p:Dt}{l2:List Dt}{aSJ:St}:∀{l1:List Dt} {st:St},(∀q∈l1,aQY ops q p)->vI E ops base (l1 ++ p :: l2) st aSJ->vI E ops base (p :: (l1 ++ l2)) st aSJ
 | [],st,_,h=>h
 |q :: l1,st,hi,h=>by
  obtain⟨st1,hq,h⟩:=h;have ih:=vI.front (fun q' Xm=>hi q' (bNU _ Xm)) h;exact vI.swap (hi q (bNI ..)) ⟨st1,hq,ih⟩
end
def aLH(base:Nat)(done:Nat->Prop)(id:Nat):Prop:=id<base\/∃i,done i/\base+8*i<=id/\id<base+8*i+8
section
variable {P:Program} {E:Env} {X:Nat->Prop} {w0:Old} {ops:Array Oper} {base:Nat}
theorem gX.pD{ρ:Nat->Nat}{al al':Nat->Prop}{fr:Nat->A}{hp:Nat->Option iM}{a:Act}{w:World}(h:gX E X w0 ρ al fr hp a w)(pK:∀i,al i->al' i):gX E X w0 ρ al' fr hp a w :=
 { fr:=h.fr,sz:=h.sz,nod:=h.nod,blk:=h.blk,inj:=h.inj,alh:=fun i b hb=>pK i (h.alh i b hb),alr:=fun t i hi=>pK i (h.alr t i hi),below:=h.below,x0:=h.x0,glob:=h.glob,mg:=h.mg,al0:=fun i hi=>pK i (h.al0 i hi),uS:=h.uS }
theorem Kz{ρ:Nat->Nat}{al:Nat->Prop}{fr:Nat->A}{hp:Nat->Option iM}{a:Act}{w:World}(h:gX E X w0 ρ al fr hp a w){o:Oper} :
  (gd ops o fr=.run->Region.wanted o (yielded ops a.tmps)=true)/\(gd ops o fr=.skip->Region.wanted o (yielded ops a.tmps)=false):=by
 unfold gd Region.wanted;cases hg:o.guard with
 |none=>exact⟨fun _=>rfl,fun h=>by cases h⟩
 |some p =>
  obtain⟨j,want⟩:=p;simp only;cases hd:(ops[j]?).bind (·.dst)with
  |none=>exact⟨fun h=>(by cases h),fun h=>(by cases h)⟩
  |some d =>
   simp only;split
   ·rename_i b hb;have hr:=h.fr d;rw[hb]at hr;have hv:a.tmps.getD d undef=.bool b:=hr.1;have hy:yielded ops a.tmps j=some b:=by
     unfold yielded;rw[hd];simp only[bOS];have:a.tmps[d]?=some (.bool b):=by
      rw[Array.getD_eq_getD_getElem?]at hv;cases hq:a.tmps[d]? with
      |none=>rw[hq]at hv;simp[undef]at hv
      |some v=>rw[hq]at hv;simp at hv;rw[hv]
     rw[this]
    rw[hy]
    by_cases aKD:b=want
    ·simp[aKD]
    ·simp[aKD]
   ·rename_i hb;have hr:=h.fr d;rw[hb]at hr;obtain⟨arr,hv,_⟩:=hr;have hy:yielded ops a.tmps j=none:=by
     unfold yielded;rw[hd];simp only[bOS];rw[Array.getD_eq_getD_getElem?]at hv;cases hq:a.tmps[d]? with
     |none=>rfl
     |some v=>rw[hq]at hv;simp at hv;rw[hv]
    rw[hy];exact⟨fun h=>(by cases h),fun _=>rfl⟩
   ·exact⟨fun h=>(by cases h),fun h=>(by cases h)⟩
theorem vV.wp(hT:mJ P E.T)(hC:iW P E){ρ:Nat->Nat}{done:Nat->Prop}{a:Act}{w:World}{st eN:St}{d:Dt}(hs:vV E ops base d st eN)(h:gX E X w0 ρ (aLH base done) st.fr st.hp a w)(hnd:¬done d.i)
  (K:Act->World->Prop) (Q:Exit->Act->World->Prop) (hK:∀ρ' a' w',gX E X w0 ρ' (aLH base fun i=>done i\/i=d.i) eN.fr eN.hp a' w'->K a' w'):wpOp P ops Q d.i K a w:=by
 obtain⟨h1,h2,h3,rfl⟩:=hs;unfold wpOp;rw[h1];simp only;have Kx:∀i,mB (aLH base done) (base+8*d.i) i->aLH base (fun i=>done i\/i=d.i) i:=by
  rintro i ((hi |⟨j,hj,Zu⟩) |hi)
  ·exact .inl hi
  ·exact .inr ⟨j,.inl hj,Zu⟩
  ·exact .inr ⟨d.i,.inr rfl,hi⟩
 rcases h3 with ⟨hg,he,ht⟩ |⟨hg,hx,hu,ht⟩
 ·rw[if_pos ((Kz h).1 hg)];refine .inl (Te h h2 hT hC ?_ he K Q (fun ρ' v w' Ud=>hK ρ' _ w' (Ud.pD Kx)));rintro j hj (iN |⟨i,hi,bAX⟩)
  ·omega
  ·have:i=d.i:=by omega
   subst this;exact hnd hi
 ·rw[if_neg (by rw[(Kz h).2 hg];simp)];rw[hx,hu]at hK;exact hK ρ _ w ((h.pure h2 (x:=.Iy []) (v:=undef) ⟨#[],rfl,rfl,fun i y u hy=>by cases hy⟩ (by simp[refs])).pD (fun i hi=>Kx i (.inl hi)))
theorem vI.wpOps(hT:mJ P E.T)(hC:iW P E)(Q:Exit->Act->World->Prop):∀(ds:List Dt) (done:Nat->Prop) (ρ:Nat->Nat) (a:Act) (w:World) (st eN:St),vI E ops base ds st eN->gX E X w0 ρ (aLH base done) st.fr st.hp a w ->
  (∀d∈ds,¬done d.i)->(ds.map (·.i)).Nodup->(∀ρ' a' w',gX E X w0 ρ' (aLH base fun i=>done i\/i∈ds.map (·.i)) eN.fr eN.hp a' w'->Q .normal a' w') ->
  Go.wpOps P ops Q (ds.map (·.i)) a w
 | [],done,ρ,a,w,st,eN,h,hs,_,_,hQ=>by
  cases h;exact hQ ρ a w (hs.pD (fun i hi=>hi.imp id fun⟨j,hj,Zu⟩=>⟨j,.inl hj,Zu⟩))
 |d :: ds,done,ρ,a,w,st,eN,h,hs,hnd,vY,hQ=>by
  obtain⟨st1,hd,hr⟩:=h;rw[bNA,wpOps_cons];rw[bNA,List.nodup_cons]at vY;refine hd.wp hT hC hs (hnd d (bNI ..)) _ _ (fun ρ' a' w' oB=>?_);refine vI.wpOps hT hC Q ds _ ρ' a' w' st1 eN hr oB (fun d' Ea Qv=>?_) vY.2 (fun ρ2 a2 w2 Jc=>hQ ρ2 a2 w2 (Jc.pD ?_))
  ·rcases Qv with Qv |Qv
   ·exact hnd d' (bNU _ Ea) Qv
   ·exact vY.1 (List.mem_map.2 ⟨d',Ea,Qv⟩)
  ·rintro i (hi |⟨j,hj,Zu⟩)
   ·exact .inl hi
   ·refine .inr ⟨j,?_,Zu⟩;rcases hj with (hj |hj) |hj
    ·exact .inl hj
    ·exact .inr (by rw[bNA,hj];exact bNI ..)
    ·exact .inr (by rw[bNA];exact bNU _ hj)
theorem zN.ind{p q:Dt}(h:zN ops p q)(Br:¬(q.o.after.any fun e=>Region.binds .any e&&e.on==p.i)=true)(bAK:¬befB ops p.i 3 q.o=true):aQY ops p q:=by
 unfold zN indep at h;rw[bOK,bOK]at h;rcases h with (h |h) |h
 ·exact absurd h Br
 ·simp only[bNH]at h;exact⟨h.1.1,h.1.2,h.2⟩
 ·exact absurd h bAK
def Pc(ops:Array Oper)(fV:Array Bool):Prop:=∀(j:Nat) (o:Oper),fV.getD j false=true->ops[j]?=some o->o.after.all (fun e=>!Region.binds .any e||fV.getD e.on false)=true
theorem Pc.bGQ{fV:Array Bool}(hc:Pc ops fV){j:Nat}:∀(n:Nat) (o:Oper),o.after.all (fun e=>!Region.binds .any e||fV.getD e.on false)=true->befB ops j n o=true->fV.getD j false=true
 |0,_,_,h=>by cases h
 |n+1,o,ha,h=>by
  unfold befB at h;rw[Array.any_eq_true']at h;obtain⟨e,he,aPG⟩:=h;rw[bNH]at aPG;rw[Array.all_eq_true_iff_forall_mem]at ha;have h1:=ha e he;rw[aPG.1]at h1;simp only[bPB,bPC]at h1;have h2:=aPG.2;rw[bOK]at h2;rcases h2 with h2 |h2
  ·have:e.on=j:=by simpa using h2
   rw[<-this];exact h1
  ·cases ho:ops[e.on]? with
   |none=>rw[ho]at h2;cases h2
   |some o' =>
    rw[ho]at h2;exact hc.bGQ n o' (hc e.on o' h1 ho) h2
theorem vI.wpAny(hT:mJ P E.T)(hC:iW P E)(Q:Exit->Act->World->Prop)(n:Nat)(hn:n=ops.size):∀(fuel:Nat) (ds:List Dt) (fV:Array Bool) (ρ:Nat->Nat) (a:Act) (w:World) (st eN:St),ds.length=fuel->fV.size=n ->
  (∀i,i∈ds.map (·.i)↔i<n/\fV.getD i true=false)->(ds.map (·.i)).Pairwise (· < ·)->bPA (zN ops) ds->(∀d∈ds,vC d.i d.o=true)->Pc ops fV ->
  vI E ops base ds st eN->gX E X w0 ρ (aLH base fun i=>fV.getD i false=true) st.fr st.hp a w ->
  (∀ρ' a' w',gX E X w0 ρ' (aLH base fun i=>i<n) eN.fr eN.hp a' w'->Q .normal a' w') ->
  Go.wpAny P .any ops Q fuel fV a w:=by
 intro fuel
 induction fuel with
 |zero =>
  intro ds fV ρ a w st eN hlen bFH He _ _ _ _ fH hs hQ;obtain rfl:ds=[]:=bPQ hlen;cases fH;have xB:∀i,i<n->fV.getD i true=true:=by
   intro i hi;cases hq:fV.getD i true with
   |true=>rfl
   |false=>exact absurd ((He i).2 ⟨hi,hq⟩) (by simp)
  refine⟨?_,hQ ρ a w (hs.pD ?_)⟩
  ·unfold Region.ready;rw[List.filter_eq_nil_iff];intro i hi;rw[bPD,<-hn]at hi;simp[xB i hi]
  ·rintro i (hi |⟨j,hj,Zu⟩)
   ·exact .inl hi
   ·refine .inr ⟨j,?_,Zu⟩;rcases bNQ j n with h |h
    ·exact h
    ·rw[Array.getD_eq_getD_getElem?,Array.getElem?_eq_none (by omega)]at hj;cases hj
 |succ fuel ih =>
  intro ds fV ρ a w st eN hlen bFH He Zs aEJ Xr aBL fH hs hQ;have rZ:∀d∈ds,ops[d.i]?=some d.o:=by
   have:∀(l:List Dt) (s s':St),vI E ops base l s s'->∀d∈l,ops[d.i]?=some d.o:=by
    intro l
    induction l with
    |nil=>intro s s' _ d hd;cases hd
    |cons d l ih =>
     intro s s' h d' Ea;obtain⟨s1,h1,h2⟩:=h;rcases List.mem_cons.1 Ea with rfl |Ea
     ·exact h1.1
     ·exact ih s1 s' h2 d' Ea
   exact this ds st eN fH
  have aEI:∀i,i∈Region.ready .any ops fV↔i<n/\fV.getD i true=false/\∃o,ops[i]?=some o/\o.after.all (fun e=>!Region.binds .any e||fV.getD e.on false)=true:=by
   intro i;unfold Region.ready;rw[List.mem_filter,bPD,<-hn];constructor
   ·rintro ⟨h1,h2⟩;rw[bNH]at h2;refine⟨h1,by simpa using h2.1,?_⟩;cases ho:ops[i]? with
    |none=>rw[ho]at h2;simp at h2
    |some o=>exact⟨o,rfl,by have:=h2.2;rw[ho]at this;simpa using this⟩
   ·rintro ⟨h1,h2,o,ho,h3⟩;refine⟨h1,?_⟩;rw[bNH];exact⟨by simp[h2],by rw[ho];simpa using h3⟩
  refine⟨fun aUI=>?_,fun i hi=>?_⟩
  ·
   exfalso
   match ds,hlen with
   |d :: ds,_ =>
    have hd:d.i<n/\fV.getD d.i true=false:=(He d.i).1 (bNI ..);have:d.i∈Region.ready .any ops fV:=by
     refine(aEI d.i).2 ⟨hd.1,hd.2,d.o,rZ d (bNI ..),?_⟩;have he:=Xr d (bNI ..);unfold vC at he;rw[Array.all_eq_true_iff_forall_mem]at he ⊢;intro e bKU;have:=he e bKU;rw[bOK]at this ⊢;rcases this with h |h
     ·exact .inl h
     ·right;have iN:e.on<d.i:=bOZ h;cases hq:fV.getD e.on false with
      |true=>rfl
      |false =>
       have Xm:fV.getD e.on true=false:=by
        rw[Array.getD_eq_getD_getElem?]at hq ⊢;rw[Array.getElem?_eq_getElem (by omega)]at hq ⊢;exact hq
       have hm:=(He e.on).2 ⟨by omega,Xm⟩;rw[bNA,bOH]at hm;rw[bNA,List.pairwise_cons]at Zs;rcases hm with hm |hm
       ·omega
       ·have:=Zs.1 _ hm;omega
    rw[aUI]at this;cases this
  ·obtain⟨h1,h2,o,ho,h3⟩:=(aEI i).1 hi;have bKH:=(He i).2 ⟨h1,h2⟩;obtain⟨p,hp,aUA⟩:=List.mem_map.1 bKH;obtain⟨l1,l2,rfl⟩:=List.append_of_mem hp;have aMN:p.o=o:=by have:=rZ p hp;rw[aUA,ho]at this;exact(Option.some.inj this).symm
   have bAU:∀q∈l1,aQY ops q p:=by
    intro q hq;have bJK:zN ops q p:=(List.pairwise_append.1 aEJ).2.2 q hq p (bNI ..);have bJP:¬fV.getD q.i false=true:=by
     have bAE:=(He q.i).1 (List.mem_map.2 ⟨q,by simp[hq],rfl⟩);have h4:=bAE.2;rw[Array.getD_eq_getD_getElem?,Array.getElem?_eq_getElem (by omega)]at h4;rw[Array.getD_eq_getD_getElem?,Array.getElem?_eq_getElem (by omega)];rw[bPX]at h4 ⊢;rw[h4];simp
    refine bJK.ind (fun Au=>?_) (fun hb=>bJP (aBL.bGQ 3 p.o (by rw[aMN];exact h3) hb));rw[Array.any_eq_true']at Au;obtain⟨e,he,aPG⟩:=Au;rw[bNH]at aPG;rw[Array.all_eq_true_iff_forall_mem]at h3;have:=h3 e (by rw[<-aMN];exact he);rw[aPG.1]at this;simp only[bPB,bPC]at this;have bJH:e.on=q.i:=by simpa using aPG.2
    have bAE:=(He q.i).1 (List.mem_map.2 ⟨q,by simp[hq],rfl⟩);rw[bJH]at this;rw[Array.getD_eq_getD_getElem?,Array.getElem?_eq_getElem (by omega)]at this;have h4:=bAE.2;rw[Array.getD_eq_getD_getElem?,Array.getElem?_eq_getElem (by omega)]at h4;rw[bPX]at this h4;rw[this]at h4;cases h4
   obtain⟨st1,aEF,vQ⟩:=vI.front bAU fH;rw[<-aUA];have Ss:fV.getD p.i false=false:=by
    have:=h2;rw[<-aUA]at this;rw[Array.getD_eq_getD_getElem?,Array.getElem?_eq_getElem (by omega)]at this ⊢;exact this
   refine aEF.wp hT hC hs (by simp[Ss]) _ _ (fun ρ' a' w' oB=>?_);have aOU:∀x∈(l1 ++ l2).map (·.i),x≠p.i:=by
    intro x hx;rw[bOA,bNA,List.pairwise_append]at Zs;rw[bOA,bOD]at hx;rcases hx with hx |hx
    ·have:=Zs.2.2 x hx p.i (bNI ..);omega
    ·have:=(List.pairwise_cons.1 Zs.2.1).1 x hx;omega
   have bBM:Pc ops (fV.setIfInBounds p.i true):=by
    have Kx:∀k,fV.getD k false=true->(fV.setIfInBounds p.i true).getD k false=true:=by
     intro k hk;rw[Array.getD_eq_getD_getElem?,Array.getElem?_setIfInBounds]
     by_cases bFJ:p.i=k
     ·rw[if_pos bFJ,aT];rfl
     ·rw[if_neg bFJ,<-Array.getD_eq_getD_getElem?];exact hk
    have aIG:∀(o':Oper),o'.after.all (fun e=>!Region.binds .any e||fV.getD e.on false)=true->o'.after.all (fun e=>!Region.binds .any e||(fV.setIfInBounds p.i true).getD e.on false)=true:=by
     intro o' aBH;rw[Array.all_eq_true_iff_forall_mem]at aBH ⊢;intro e he;have:=aBH e he;rw[bOK]at this ⊢;exact this.imp id (Kx _)
    intro j o' hj aBH
    by_cases aUU:p.i=j
    ·have:o'=o:=by rw[<-aUU,aUA,ho]at aBH;exact(Option.some.inj aBH).symm
     rw[this];exact aIG o h3
    ·rw[Array.getD_eq_getD_getElem?,Array.getElem?_setIfInBounds,if_neg aUU,<-Array.getD_eq_getD_getElem?]at hj;exact aIG o' (aBL j o' hj aBH)
   refine ih (l1 ++ l2) _ ρ' a' w' st1 eN (by simp at hlen ⊢;omega) (by simpa using bFH) ?_ ?_ ?_ ?_ bBM vQ (oB.pD ?_) hQ
   ·intro x;have Pg:=He x;rw[bOA,bNA,bOD,bOH]at Pg;rw[bOA,bOD];rw[Array.getD_eq_getD_getElem?,Array.getElem?_setIfInBounds];constructor
    ·intro hx;have Br:=aOU x (by rw[bOA,bOD];exact hx);have:=Pg.1 (hx.imp id .inr);refine⟨this.1,?_⟩;rw[if_neg (fun e=>Br e.symm),<-Array.getD_eq_getD_getElem?];exact this.2
    ·rintro ⟨bIP,Sp⟩
     by_cases aRE:p.i=x
     ·rw[if_pos aRE,aT]at Sp;simp at Sp
     ·rw[if_neg aRE,<-Array.getD_eq_getD_getElem?]at Sp;rcases Pg.2 ⟨bIP,Sp⟩with h |h |h
      ·exact .inl h
      ·exact absurd h.symm aRE
      ·exact .inr h
   ·exact Zs.sublist (by simp)
   ·exact aEJ.sublist (by simp)
   ·exact fun d hd=>Xr d (by rcases List.mem_append.1 hd with h |h <;> simp[h])
   ·rintro x (hx |⟨j,hj,Zu⟩)
    ·exact .inl hx
    ·refine .inr ⟨j,?_,Zu⟩;show(fV.setIfInBounds p.i true).getD j false=true;rw[Array.getD_eq_getD_getElem?,Array.getElem?_setIfInBounds];rcases hj with hj |hj
     ·by_cases aUU:p.i=j
      ·rw[if_pos aUU,aT];rfl
      ·rw[if_neg aUU,<-Array.getD_eq_getD_getElem?];exact hj
     ·rw[if_pos hj.symm,aT];rfl
theorem Mj(hT:mJ P E.T)(hC:iW P E)(hm:P.follows .mixedOrders=true){bHQ:Nat}{draw:Bool}{R:Type}{K:St->Option R}{r:R}{st:St}{ρ:Nat->Nat}{a:Act}{w:World}(hs:gX E X w0 ρ (fun i=>i<st.n) st.fr st.hp a w)
  (he:opsK E draw ops st.n ops.toList 0 [] st K=some r) (Q:Exit->Act->World->Prop) (hQ:∀eN ρ' a' w',K eN=some r->gX E X w0 ρ' (fun i=>i<st.n+8*ops.size) eN.fr eN.hp a' w'->Q .normal a' w') :
  (Code.region bHQ ops draw).wp P Q a w:=by
 obtain⟨ds,eN,hK,fH,aUZ,aVH⟩:=Kq E draw ops st.n K r ops.toList 0 [] st (fun k o hk=>by rw[bND];simpa using hk) he;have hlen:ds.length=ops.size:=by have:=congrArg List.length aUZ;simpa using this
 have My:ds.map (·.i)=bOL ops.size:=by rw[aUZ,Array.length_toList,List.range_eq_range']
 have pK:∀i,aLH st.n (fun i=>i<ops.size) i->i<st.n+8*ops.size:=by
  rintro i (hi |⟨j,hj,Zu⟩) <;> omega
 have He:∀i,i∈ds.map (·.i)↔i<ops.size:=fun i=>by rw[My,bPD]
 cases draw with
 |false =>
  refine wp_region ?_;rw[<-My];refine fH.wpOps hT hC Q ds (fun _=>False) ρ a w st eN (hs.pD (fun i hi=>.inl hi)) (fun _ _ h=>h) (by rw[My];exact List.nodup_range) (fun ρ' a' w' oB=>hQ eN ρ' a' w' hK (oB.pD (fun i hi=>pK i ?_)));rcases hi with hi |⟨j,hj,Zu⟩
  ·exact .inl hi
  ·exact .inr ⟨j,(He j).1 (hj.resolve_left id),Zu⟩
 |true =>
  obtain⟨_,aEJ,Xr⟩:=aVH rfl;refine wp_region_any hm ?_;have Sr:gX E X w0 ρ (fun i=>i<st.n) st.fr st.hp a { w with drawn:=w.drawn+1 }:=hs.drew;refine vI.wpAny hT hC Q ops.size rfl ops.size ds _ ρ a _ st eN hlen (by simp) (fun i=>?_) ?_ aEJ Xr (fun j o hj _=>?_) fH (Sr.pD (fun i hi=>.inl hi)) (fun ρ' a' w' oB=>hQ eN ρ' a' w' hK (oB.pD pK))
  ·rw[He];constructor
   ·intro hi;exact⟨hi,by rw[Array.getD_eq_getD_getElem?,Array.getElem?_replicate,if_pos hi];rfl⟩
   ·exact fun h=>h.1
  ·rw[My];exact List.pairwise_lt_range
  ·exfalso;rw[Array.getD_eq_getD_getElem?,Array.getElem?_replicate]at hj;split at hj <;> cases hj
end
end AI
namespace AI
open Go Go.RowKit
section
variable {P:Program} {E:Env} {X:Nat->Prop} {w0:Old}
def Fu(n0:Nat)(st:St)(p s i:Nat)(kv:KV):Prop :=
 kv=(.any,none)\/(bNE 1000000 s=true/\aFE st (s%1000000)=some (i,kv.1)/\kv.2=none/\n0<=i)\/(∃n,kv=(.v (.one (.buf p n)),st.hp i)/\st.fr (s%1000000)=.v (.one (.buf i n)))\/(kv=(.v (.one (.ptr p 0)),st.hp i)/\st.fr (s%1000000)=.v (.one (.ptr i 0)))\/(kv=(st.fr (s%1000000),none)/\∀i∈refs (st.fr (s%1000000)),i<n0)
def pM(s:Nat)(kv:KV):Bool:=kv.2.isSome||(bNE 1000000 s&&(match kv.1 with | .any=>false |_=>true))
theorem aAD{st:St}{s i:Nat}{a:A}(h:aFE st s=some (i,a)):∃n sz f,st.fr s=.v (.one (.buf i n))/\a=.v (.one (.rows sz n f))/\toD st.hp (.v (.one (.buf i n)))=some (.rows sz n f):=by
 unfold aFE at h;split at h
 ·rename_i i' n hf;split at h
  ·rename_i e cs hb;split at h
   ·rename_i hc;cases h;refine⟨n,_,_,hf,rfl,?_⟩;simp only[toD,hb];rw[if_pos hc]
   ·cases h
  ·cases h
 ·cases h
theorem Ay(n0:Nat)(st:St):∀(keep:List Nat) (p:Nat) (seen:List Nat),(∀x,x<n0->x∈seen)->∃Mw:Nat->Nat,(canonGo n0 st keep p seen).length=keep.length /\
  (∀(k s:Nat),keep[k]?=some s->∃kv,(canonGo n0 st keep p seen)[k]?=some kv/\Fu n0 st (p+k) s (Mw k) kv/\(pM s kv=true->Mw k ∉ seen)) /\
  (∀(k k' s s':Nat) (kv Ja:KV),keep[k]?=some s->keep[k']?=some s'->(canonGo n0 st keep p seen)[k]?=some kv->(canonGo n0 st keep p seen)[k']?=some Ja->pM s kv=true->pM s' Ja=true->Mw k=Mw k'->k=k')
 | [],p,seen,_=>⟨fun _=>0,rfl,fun k s h=>by simp at h,fun k k' s s' kv Ja h=>by simp at h⟩
 |s :: keep,p,seen,hn=>by
  have core:∀(kv:KV) (i:Nat) (Gh:List Nat),(∀x∈seen,x∈Gh)->(pM s kv=true->i∈Gh/\i ∉ seen)->Fu n0 st p s i kv->canonGo n0 st (s :: keep) p seen=kv :: canonGo n0 st keep (p+1) Gh ->
    ∃Mw:Nat->Nat,(canonGo n0 st (s :: keep) p seen).length=(s :: keep).length /\
    (∀(k s':Nat),(s :: keep)[k]?=some s'->∃kv,(canonGo n0 st (s :: keep) p seen)[k]?=some kv/\Fu n0 st (p+k) s' (Mw k) kv/\(pM s' kv=true->Mw k ∉ seen)) /\
    (∀(k k' s1 s2:Nat) (kv Ja:KV),(s :: keep)[k]?=some s1->(s :: keep)[k']?=some s2->(canonGo n0 st (s :: keep) p seen)[k]?=some kv->(canonGo n0 st (s :: keep) p seen)[k']?=some Ja->pM s1 kv=true->pM s2 Ja=true->Mw k=Mw k'->k=k'):=by
   intro kv i Gh bEX hi bBB heq;obtain⟨Mw,h1,h2,h3⟩:=Ay n0 st keep (p+1) Gh (fun x hx=>bEX x (hn x hx));rw[heq];have aMM:∀(k s':Nat) (Ja:KV),keep[k]?=some s'->(canonGo n0 st keep (p+1) Gh)[k]?=some Ja->pM s' Ja=true->Mw k ∉ Gh:=by
    intro k s' Ja oB hk hs;obtain⟨aZD,e1,_,e3⟩:=h2 k s' oB;rw[hk]at e1;cases e1;exact e3 hs
   refine⟨fun k=>if k=0 then i else Mw (k-1),by simp[h1],?_,?_⟩
   ·intro k s' hk
    match k with
    |0=>simp at hk;subst hk;exact⟨kv,rfl,by simpa using bBB,fun h=>by simpa using (hi h).2⟩
    |k+1 =>
     simp at hk;obtain⟨Ja,e1,e2,e3⟩:=h2 k s' hk;refine⟨Ja,by simpa using e1,?_,fun h=>?_⟩
     ·simp only[bPY,if_false,bPZ];rw[show p+(k+1)=p+1+k by omega];exact e2
     ·simp only[bPY,if_false,bPZ];exact fun hm=>e3 h (bEX _ hm)
   ·intro k k' s1 s2 bEH aZD Sr Jc hk Su hs oB he
    match k,k' with
    |0,0=>rfl
    |0,k'+1 =>
     simp at hk Su Sr Jc;subst hk;subst Sr;simp at he;exact absurd (hi hs).1 (by rw[he];exact aMM k' s2 aZD Jc Su oB)
    |k+1,0 =>
     simp at hk Su Sr Jc;subst Su;subst Jc;simp at he;exact absurd (hi oB).1 (by rw[<-he];exact aMM k s1 bEH Sr hk hs)
    |k+1,k'+1 =>
     simp at hk Su he Sr Jc;have:=h3 k k' s1 s2 bEH aZD Sr Jc hk Su hs oB he;omega
  have Au:canonGo n0 st (s :: keep) p seen=(.any,none) :: canonGo n0 st keep (p+1) seen->_:=core (.any,none) 0 seen (fun _ h=>h) (fun h=>by simp[pM]at h) (.inl rfl);cases hz:bNE 1000000 s with
  |true =>
   cases hv:aFE st (s%1000000)with
   |none=>exact Au (by simp only[canonGo,hz,cond_true,hv])
   |some q =>
    obtain⟨i,a⟩:=q;cases Sq:seen.elem i with
    |true=>exact Au (by simp only[canonGo,hz,cond_true,hv,Sq])
    |false =>
     have Cu:i ∉ seen:=by simpa using Sq
     exact core (a,none) i (i :: seen) (fun _ h=>bNU _ h) (fun _=>⟨bNI ..,Cu⟩) (.inr (.inl ⟨hz,hv,rfl,Nat.le_of_not_lt fun iN=>Cu (hn i iN)⟩)) (by simp only[canonGo,hz,cond_true,hv,Sq,cond_false])
  |false =>
  have Zi:∀a,pM s (a,none)=true->False:=by
   intro a h;simp[pM,hz]at h
  cases hf:st.fr (s%1000000)with
  |any=>exact Au (by simp only[canonGo,hz,cond_false,hf])
  |Iy xs=>exact Au (by simp only[canonGo,hz,cond_false,hf])
  |v x =>
   cases x with
   |agg cs=>exact core (.v (.agg cs),none) 0 seen (fun _ h=>h) (fun h=>(Zi _ h).elim) (.inr (.inr (.inr (.inr ⟨by rw[hf],by rw[hf];intro i hi;cases hi⟩)))) (by simp only[canonGo,hz,cond_false,hf])
   |one l =>
    cases l with
    |s x=>exact core (.v (.one (.s x)),none) 0 seen (fun _ h=>h) (fun h=>(Zi _ h).elim) (.inr (.inr (.inr (.inr ⟨by rw[hf],by rw[hf];intro i hi;cases hi⟩)))) (by simp only[canonGo,hz,cond_false,hf])
    |rows sz n f=>exact core (.v (.one (.rows sz n f)),none) 0 seen (fun _ h=>h) (fun h=>(Zi _ h).elim) (.inr (.inr (.inr (.inr ⟨by rw[hf],by rw[hf];intro i hi;cases hi⟩)))) (by simp only[canonGo,hz,cond_false,hf])
    |Jw cs=>exact core (.v (.one (.Jw cs)),none) 0 seen (fun _ h=>h) (fun h=>(Zi _ h).elim) (.inr (.inr (.inr (.inr ⟨by rw[hf],by rw[hf];intro i hi;cases hi⟩)))) (by simp only[canonGo,hz,cond_false,hf])
    |Of k ns=>exact core (.v (.one (.Of k ns)),none) 0 seen (fun _ h=>h) (fun h=>(Zi _ h).elim) (.inr (.inr (.inr (.inr ⟨by rw[hf],by rw[hf];intro i hi;cases hi⟩)))) (by simp only[canonGo,hz,cond_false,hf])
    |Mu i j=>exact Au (by simp only[canonGo,hz,cond_false,hf])
    |view i off n =>
     cases Sq:bNM i n0 with
     |false=>exact Au (by simp only[canonGo,hz,hf,Sq,cond_false])
     |true =>
      have iN:i<n0:=by rw[Nat.blt_eq]at Sq;exact Sq
      exact core (.v (.one (.view i off n)),none) 0 seen (fun _ h=>h) (fun h=>(Zi _ h).elim) (.inr (.inr (.inr (.inr ⟨by rw[hf],by rw[hf];intro j hj;simp[refs,refsV,refsL]at hj;omega⟩)))) (by simp only[canonGo,hz,cond_false,hf,Sq,cond_true])
    |buf i n =>
     cases Sq:seen.elem i with
     |true=>exact Au (by simp only[canonGo,hz,cond_false,hf,Sq,cond_true])
     |false =>
      have Cu:i ∉ seen:=by simpa using Sq
      exact core (.v (.one (.buf p n)),st.hp i) i (i :: seen) (fun _ h=>bNU _ h) (fun _=>⟨bNI ..,Cu⟩) (.inr (.inr (.inl ⟨n,rfl,hf⟩))) (by simp only[canonGo,hz,hf,Sq,cond_false])
    |ptr i off =>
     match off with
     |0 =>
      cases Sq:seen.elem i with
      |true=>exact Au (by simp only[canonGo,hz,cond_false,hf,Sq,cond_true])
      |false =>
       have Cu:i ∉ seen:=by simpa using Sq
       exact core (.v (.one (.ptr p 0)),st.hp i) i (i :: seen) (fun _ h=>bNU _ h) (fun _=>⟨bNI ..,Cu⟩) (.inr (.inr (.inr (.inl ⟨rfl,hf⟩)))) (by simp only[canonGo,hz,hf,Sq,cond_false])
     |off+1=>exact Au (by simp only[canonGo,hz,cond_false,hf])
theorem Dw(t:Nat):∀(keep:List Nat) (l:List KV),slotGo t keep l=.any\/∃(k s:Nat) (kv:KV),keep[k]?=some s/\t=s%1000000/\l[k]?=some kv/\slotGo t keep l=kv.1
 | [],_=>.inl (by simp[slotGo])
 |_ :: _,[]=>.inl (by simp[slotGo])
 |s :: keep,kv :: l=>by
  simp only[slotGo];cases hb:bNC t (s%1000000)with
  |true=>exact .inr ⟨0,s,kv,rfl,bNP hb,rfl,rfl⟩
  |false =>
   rcases Dw t keep l with h |⟨k,s',Ja,h1,h0,h2,h3⟩
   ·exact .inl h
   ·exact .inr ⟨k+1,s',Ja,by simpa using h1,h0,by simpa using h2,h3⟩
theorem Hy:∀(l:List KV) (i:Nat) (b:iM),blkGo i l=some b->∃kv,l[i]?=some kv/\kv.2=some b
 | [],i,b,h=>by simp[blkGo]at h
 |kv :: l,0,b,h=>⟨kv,rfl,h⟩
 |kv :: l,i+1,b,h=>by
  obtain⟨Ja,h1,h2⟩:=Hy l i b h;exact⟨Ja,by simpa using h1,h2⟩
theorem Lk:∀(l:List KV) (i:Nat) (kv:KV),l[i]?=some kv->blkGo i l=kv.2
 | [],i,kv,h=>by simp at h
 |bIK :: l,0,kv,h=>by simp at h;subst h;rfl
 |bIK :: l,i+1,kv,h=>Lk l i kv (by simpa using h)
theorem Eb(st:St):∀(n i:Nat),(canonIO st n i).length=n
 |0,_=>rfl
 |n+1,i=>by simp[canonIO,Eb st n]
theorem Ec(st:St):∀(n i k:Nat) (r:List KV),k<n->blkGo k (canonIO st n i ++ r)=st.hp (i+k)
 |0,_,_,_,h=>by omega
 |n+1,i,0,r,_=>rfl
 |n+1,i,k+1,r,h=>by
  simp only[canonIO,bOT,blkGo];rw[Ec st n (i+1) k r (by omega)];congr 1;omega
theorem Ax(st:St):∀(n i k:Nat) (r:List KV),blkGo (n+k) (canonIO st n i ++ r)=blkGo k r
 |0,_,k,r=>by simp[canonIO]
 |n+1,i,k,r=>by
  rw[show n+1+k=(n+k)+1 by omega];simp only[canonIO,bOT,blkGo];exact Ax st n (i+1) k r
theorem De:∀{n i:Nat},i<n->i∈below n
 |n+1,i,h=>by
  unfold below
  by_cases hi:i=n
  ·subst hi;exact bNI ..
  ·exact bNU _ (De (by omega))
theorem Db{ρ:Nat->Nat}{al:Nat->Prop}{st:St}{a:Act}{w:World}(h:gX E X w0 ρ al st.fr st.hp a w)(keep:List Nat) :
  ∃ρ',gX E X w0 ρ' (fun i=>i<(mk E.n0 keep (canon E.n0 keep st)).n) (mk E.n0 keep (canon E.n0 keep st)).fr (mk E.n0 keep (canon E.n0 keep st)).hp a w:=by
 obtain⟨n0,Eo⟩:∃n0,n0=E.n0:=⟨_,rfl⟩;rw[<-Eo];obtain⟨Mw,h1,h2,h3⟩:=Ay n0 st keep n0 (below n0) (fun x hx=>De hx);obtain⟨C,hC⟩:∃C,C=canonGo n0 st keep n0 (below n0):=⟨_,rfl⟩;have aUS:canon n0 keep st=canonIO st n0 0 ++ C:=by rw[hC];rfl
 rw[<-hC]at h1 h2 h3;rw[aUS];have aES:(canonIO st n0 0 ++ C).drop n0=C:=by
  have:=bPT (l₁:=canonIO st n0 0) (l₂:=C);rwa [Eb]at this
 obtain⟨tM,Nb⟩:∃tM,tM=(mk n0 keep (canonIO st n0 0 ++ C)).hp:=⟨_,rfl⟩;rw[<-Nb];have Uh:∀q,q<n0->tM q=st.hp q:=fun q hq=>by
  rw[Nb];have:=Ec st n0 0 q C hq;rw[bND]at this;exact this
 have Sv:∀k,tM (n0+k)=blkGo k C:=fun k=>by rw[Nb];exact Ax st n0 0 k C
 have aRK:∀t,(mk n0 keep (canonIO st n0 0 ++ C)).fr t=slotGo t keep C:=fun t=>by
  show slotGo t keep ((canonIO st n0 0 ++ C).drop n0)=_;rw[aES]
 have hn:(mk n0 keep (canonIO st n0 0 ++ C)).n=n0+keep.length:=rfl;obtain⟨aBF,aVA⟩:∃aBF:Nat->Nat,aBF=fun q=>if q<n0 then q else Mw (q-n0):=⟨_,rfl⟩
 have aJZ:∀q,q<n0->aBF q=q:=fun q hq=>by rw[aVA];simp only;rw[if_pos hq]
 have aEQ:∀k,aBF (n0+k)=Mw k:=fun k=>by rw[aVA];simp only;rw[aX];congr 1;omega
 have aIG:∀(k:Nat) (b:iM),blkGo k C=some b->k<keep.length/\st.hp (Mw k)=some b/\n0<=Mw k/\∃kv,C[k]?=some kv/\kv.2=some b:=by
  intro q b hq;obtain⟨kv,hk,hb⟩:=Hy _ q b hq;have iN:q<keep.length:=by have:=aR hk;omega
  obtain⟨s,hs⟩:=aY iN;obtain⟨Ja,e1,e2,e3⟩:=h2 q s hs;rw[hk]at e1;cases e1;refine⟨iN,?_,?_,kv,hk,hb⟩
  ·rcases e2 with rfl |⟨_,_,h9,_⟩ |⟨n,rfl,_⟩ |⟨rfl,_⟩ |⟨rfl,_⟩
   ·cases hb
   ·rw[h9]at hb;cases hb
   ·exact hb
   ·exact hb
   ·cases hb
  ·have:=e3 (by unfold pM;rw[hb];rfl);rcases bNQ (Mw q) n0 with h4 |h4
   ·exact absurd (De h4) this
   ·exact h4
 have Qt:∀(q:Nat) (b:iM),tM q=some b->st.hp (aBF q)=some b/\q<n0+keep.length:=by
  intro q b hq;rcases bNQ q n0 with h4 |h4
  ·rw[Uh q h4]at hq;exact⟨by rw[aJZ q h4];exact hq,by omega⟩
  ·obtain⟨k,rfl⟩:=bOG h4;rw[Sv]at hq;obtain⟨h5,h6,_⟩:=aIG k b hq;exact⟨by rw[aEQ];exact h6,by omega⟩
 have pZ:∀b,XO X (fun q=>ρ (aBF q)) tM b->XO X ρ st.hp b:=by
  rintro b (hb |⟨q,bl,h4,h5⟩)
  ·exact .inl hb
  ·exact .inr ⟨aBF q,bl,(Qt q bl h4).1,h5⟩
 have hl:gB (XO X ρ st.hp) w (XO X (fun q=>ρ (aBF q)) tM) w:=⟨bNB _,fun b _ hx=>⟨rfl,fun hb=>hx (pZ b hb)⟩⟩;have key:∀t,vK (fun q=>ρ (aBF q)) tM (XO X (fun q=>ρ (aBF q)) tM) w (slotGo t keep C) (a.tmps.getD t undef)/\∀i∈refs (slotGo t keep C),i<n0+keep.length:=by
  intro t;rcases Dw t keep C with he |⟨k,s,kv,hk,aXE,aXL,he⟩
  ·rw[he];exact⟨trivial,by simp[refs]⟩
  ·rw[he];obtain⟨Ja,e1,e2,e3⟩:=h2 k s hk;rw[aXL]at e1;cases e1;have iN:=aR hk;have hr:=h.fr t;have aVL:=Lk _ k kv aXL;unfold Fu at e2;rw[<-aXE]at e2;rcases e2 with rfl |⟨hz,hfz,h9,bGG⟩ |⟨n,rfl,hf⟩ |⟨rfl,hf⟩ |⟨rfl,hf⟩
   ·exact⟨trivial,by simp[refs]⟩
   ·obtain⟨n,sz,f,hf,ha,hd⟩:=aAD hfz;rw[hf]at hr;have aBL:pM s kv=true:=by unfold pM;rw[hz,ha];simp
    have bJE:=Bz h (u:=[(Mw k,none)]) (fun p hp=>by simp at hp;rw[hp]) hr (fun i hi=>by simp[refs,refsV,refsL]at hi;rw[hi];simp) hd;rw[ha];refine⟨lL.later (d:=.rows sz n f) ⟨bNB _,fun b _ hx=>⟨rfl,fun hb=>hx ?_⟩⟩ bJE,by intro i hi;cases hi⟩;rcases hb with hb |⟨q,bl,h4,h5⟩
    ·exact .inl hb
    ·have h6:=Qt q bl h4;refine .inr ⟨aBF q,bl,?_,h5⟩;simp only[applyUps];rw[eK _ _ ?_]
     ·exact h6.1
     ·intro hq;rcases bNQ q n0 with h7 |h7
      ·rw[aJZ q h7]at hq;omega
      ·obtain⟨k',rfl⟩:=bOG h7;rw[Sv]at h4;obtain⟨h8,_,_,Ja,Su,aEL⟩:=aIG k' bl h4;obtain⟨s',oB⟩:=aY h8;rw[aEQ]at hq;have:=h3 k' k s' s Ja kv oB hk Su aXL (by unfold pM;rw[aEL];rfl) aBL hq;subst this;rw[aXL]at Su;cases Su;rw[h9]at aEL;cases aEL
   ·rw[hf]at hr;obtain⟨cap,hv,yO,hc,aMW⟩:=hr;refine⟨⟨cap,by simp only[aEQ];exact hv,yO,fun blk k1 ns hb Ep=>?_,fun blk cs hb Ep=>?_⟩,?_⟩
    ·rw[Sv,aVL]at hb;have:=hc blk k1 ns hb Ep;simp only[aEQ];exact this
    ·rw[Sv,aVL]at hb;have:=aMW blk cs hb Ep;simp only[aEQ];exact this
    ·intro i hi;simp[refs,refsV,refsL]at hi;omega
   ·rw[hf]at hr;refine⟨?_,?_⟩
    ·show _=_;simp only[aEQ];exact hr
    ·intro i hi;simp[refs,refsV,refsL]at hi;omega
   ·refine⟨vK.later (al:=fun i=>i<n0) hl (fun i hi=>⟨by simp only[aJZ i hi],fun b' vT=>⟨b',by rw[<-Uh i hi];exact vT,sameShape.refl _,rfl⟩⟩) hf hr,fun i hi=>?_⟩;have:=hf i hi;omega
 refine⟨fun q=>ρ (aBF q),{ fr:=fun t=>by rw[aRK];exact(key t).1,sz:=h.sz,nod:=h.nod,blk:=?_,inj:=?_,alh:=?_,alr:=fun t i hi=>by rw[aRK]at hi;exact(key t).2 i hi,below:=h.below,x0:=h.x0,glob:=h.glob,mg:=h.mg,al0:=fun i hi=>by show i<n0+keep.length;omega,uS:=fun i hi=>by simp only[aJZ i (by omega)];exact h.uS i hi }⟩
 ·intro q b hq;have hb:=(Qt q b hq).1;refine⟨?_,(h.blk _ b hb).2.later hl rfl⟩;rcases bNQ q n0 with h4 |h4
  ·have:=(h.blk _ b hb).1;simp only[aJZ q h4]at this ⊢;exact this
  ·obtain⟨k,rfl⟩:=bOG h4;rw[Sv]at hq;obtain⟨_,_,h6,_⟩:=aIG k b hq;exact .inl ((h.blk _ b hb).1.new (by rw[aEQ];omega))
 ·intro q q' b b' hq Xm he;have hb:=(Qt q b hq).1;have vT:=(Qt q' b' Xm).1;have aKA:=h.inj _ _ b b' hb vT he;rcases bNQ q n0 with h4 |h4
  ·rcases bNQ q' n0 with h5 |h5
   ·rw[aJZ q h4,aJZ q' h5]at aKA;exact aKA
   ·obtain⟨k,rfl⟩:=bOG h5;rw[Sv]at Xm;obtain⟨_,_,h6,_⟩:=aIG k b' Xm;rw[aJZ q h4,aEQ]at aKA;omega
  ·obtain⟨k,rfl⟩:=bOG h4;rw[Sv]at hq;obtain⟨_,_,h6,kv,hk,bKA⟩:=aIG k b hq;rcases bNQ q' n0 with h5 |h5
   ·rw[aJZ q' h5,aEQ]at aKA;omega
   ·obtain⟨k',rfl⟩:=bOG h5;rw[Sv]at Xm;obtain⟨_,_,_,Ja,Su,aEL⟩:=aIG k' b' Xm;rw[aEQ,aEQ]at aKA;obtain⟨s1,Sr⟩:=aY (l:=keep) (i:=k) (by have:=aR hk;omega);obtain⟨s2,Jc⟩:=aY (l:=keep) (i:=k') (by have:=aR Su;omega);have:=h3 k k' s1 s2 kv Ja Sr Jc hk Su (by unfold pM;rw[bKA];rfl) (by unfold pM;rw[aEL];rfl) aKA;omega
 ·intro q b hq;exact(Qt q b hq).2
def exitOf:Ex->Exit
 | .normal=>.normal
 | .exit id=>.exit id
 | .ret=>.ret
def KQ{R:Type}(E:Env)(X:Nat->Prop)(w0:Old)(K:Ex->St->Option R)(Q:Exit->Act->World->Prop)(r:R):Prop :=
 ∀(ex:Ex) (st:St) (ρ:Nat->Nat) (a:Act) (w:World),K ex st=some r->gX E X w0 ρ (fun i=>i<st.n) st.fr st.hp a w->Q (exitOf ex) a w
theorem wX{R:Type}{c:Code}{keep:List Nat}{r:R}{Q:Exit->Act->World->Prop}{K:Ex->St->Option R}(bCA:KQ E X w0 K Q r)
  (ih:∀(st:St) (K:Ex->St->Option R) (Q:Exit->Act->World->Prop) (ρ:Nat->Nat) (a:Act) (w:World),gX E X w0 ρ (fun i=>i<st.n) st.fr st.hp a w->evalCode E c st K=some r->KQ E X w0 K Q r->c.wp P Q a w) :
  ∀(n:Nat) (l:List KV) (ρ:Nat->Nat) (a:Act) (w:World),iter (fun rec l=>evalCode E c (mk E.n0 keep l) fun ex eN=>match ex with
    | .normal=>rec (canon E.n0 keep eN)
    | .exit i=>K (.exit i) eN
    | .ret=>K .ret eN) n l=some r->gX E X w0 ρ (fun i=>i<(mk E.n0 keep l).n) (mk E.n0 keep l).fr (mk E.n0 keep l).hp a w->Code.rounds P c Q n a w
 |0,l,ρ,a,w,h,_=>by cases h
 |n+1,l,ρ,a,w,h,hs=>by
  rw[rounds_succ];refine ih (mk E.n0 keep l) _ _ ρ a w hs h ?_;intro ex eN ρ' a' w' he oB;cases ex with
  |normal =>
   obtain⟨ρ2,Jc⟩:=Db oB keep;exact wX bCA ih n _ ρ2 a' w' he Jc
  |exit i=>exact bCA (.exit i) eN ρ' a' w' he oB
  |ret=>exact bCA .ret eN ρ' a' w' he oB
theorem aFG{α R:Type}{G:(α->Option R)->α->Option R}{x:α}{r:R}(h:fix G x=some r):∃n,iter G n x=some r:=by
 unfold fix at h;split at h
 ·rename_i hex;cases h;exact Classical.choose_spec hex
 ·cases h
theorem Uu(hT:mJ P E.T)(hC:iW P E)(hm:P.follows .mixedOrders=true){R:Type}(r:R):∀(c:Code) (st:St) (K:Ex->St->Option R) (Q:Exit->Act->World->Prop) (ρ:Nat->Nat) (a:Act) (w:World),
  gX E X w0 ρ (fun i=>i<st.n) st.fr st.hp a w->evalCode E c st K=some r->KQ E X w0 K Q r->c.wp P Q a w:=by
 intro c
 induction c with
 |skip=>intro st K Q ρ a w hs he hK;exact wp_skip (hK .normal st ρ a w he hs)
 |label l=>intro st K Q ρ a w hs he hK;exact wp_label (hK .normal st ρ a w he hs)
 |exit id=>intro st K Q ρ a w hs he hK;exact wp_exit (hK (.exit id) st ρ a w he hs)
 |ret=>intro st K Q ρ a w hs he hK;exact wp_ret (hK .ret st ρ a w he hs)
 |region id ops draw =>
  intro st K Q ρ a w hs he hK;unfold evalCode at he;exact Mj hT hC hm hs he Q (fun eN ρ' a' w' hk oB=>hK .normal _ ρ' a' w' hk oB)
 |seq x y aWZ aTG =>
  intro st K Q ρ a w hs he hK;unfold evalCode at he;refine wp_seq (aWZ st _ _ ρ a w hs he ?_);intro ex eN ρ' a' w' hk oB;cases ex with
  |normal =>
   simp only at hk;split at hk
   ·rename_i keep _;obtain⟨ρ2,Jc⟩:=Db oB keep;unfold yF at hk;exact aTG _ K Q ρ2 a' w' Jc hk hK
   ·exact aTG eN K Q ρ' a' w' oB hk hK
  |exit i=>exact hK (.exit i) eN ρ' a' w' hk oB
  |ret=>exact hK .ret eN ρ' a' w' hk oB
 |cond c x y aWZ aTG =>
  intro st K Q ρ a w hs he hK;unfold evalCode at he;split at he
  ·rename_i s;split at he
   ·rename_i t ht;have hr:=hs.fr s;rw[ht]at hr;have hv:a.eval (.tmp s)=.bool t:=hr.1;have e0:xU st.fr s (yN (.bool t))=st.fr:=Vv st.fr s t ht;refine wp_cond hv ?_;cases t with
    |true=>simp only[cond_true,e0]at he;exact aWZ _ K Q ρ a w hs he hK
    |false=>simp only[cond_false,e0]at he;exact aTG _ K Q ρ a w hs he hK
   ·cases he
  ·rename_i t;refine wp_cond (t:=t) rfl ?_;cases t with
   |true=>simp only[cond_true]at he;exact aWZ _ K Q ρ a w hs he hK
   |false=>simp only[cond_false]at he;exact aTG _ K Q ρ a w hs he hK
  ·cases he
 |block id c ih =>
  intro st K Q ρ a w hs he hK;unfold evalCode at he;refine wp_block (ih st _ _ ρ a w hs he ?_);intro ex eN ρ' a' w' hk oB;cases ex with
  |normal=>exact hK .normal eN ρ' a' w' hk oB
  |ret=>exact hK .ret eN ρ' a' w' hk oB
  |exit i =>
   simp only[exitOf,Exit.inBlock];simp only at hk;cases hb:bNC i id with
   |true =>
    rw[hb]at hk;rw[if_pos (bNP hb)];exact hK .normal eN ρ' a' w' hk oB
   |false =>
    rw[hb]at hk;rw[if_neg (bPF hb)];exact hK (.exit i) eN ρ' a' w' hk oB
 |loop c ih =>
  intro st K Q ρ a w hs he hK;unfold evalCode at he;obtain⟨ρ2,Jc⟩:=Db hs (E.keep (keyOf c));split at he
  ·rename_i n _;exact wp_loop_rounds n (wX hK ih n _ ρ2 a w he Jc)
  ·obtain⟨n,hn⟩:=aFG he;exact wp_loop_rounds n (wX hK ih n _ ρ2 a w hn Jc)
 |rangeFunc f ps x y _ _=>intro st K Q ρ a w hs he hK;unfold evalCode at he;cases he
 |scope c ih =>
  intro st K Q ρ a w hs he hK;unfold evalCode at he;refine wp_scope_straight (ih st K _ ρ a w hs he ?_);intro ex eN ρ' a' w' hk oB;have:=hK ex eN ρ' a' w' hk oB;cases ex <;> exact this
 |goto l=>intro st K Q ρ a w hs he hK;unfold evalCode at he;cases he
 |refuse bDR=>intro st K Q ρ a w hs he hK;unfold evalCode at he;cases he
end
end AI
end Go.Proofs.YtcnlagnipklcmaaGreatDoor
end
