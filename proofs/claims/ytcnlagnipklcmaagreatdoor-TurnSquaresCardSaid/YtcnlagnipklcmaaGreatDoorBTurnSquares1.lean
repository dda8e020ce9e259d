/- Contracts of functions (their ground), for the claim on TurnSquares. -/
import Derived.WalkKit
import Derived.Laws.CopyOwn
import Derived.LoopN
import Derived.Laws.StructEq
import Derived.Scope
set_option linter.unusedVariables false
set_option linter.unusedSimpArgs false
noncomputable section
open Go.IntKind(i8 i16 i32 i64 u8 u16 u32 u64)
open List renaming map_cons->bLV,getElem?_map->bMA,getElem?_take_of_lt->bMB,mem_cons_self->bMD,mem_of_getElem?->bMF,getElem?_drop->bMI,getElem?_eq_getElem->bMM,mem_singleton->bMN,map_nil->bMO,mem_cons_of_mem->bMP,map_toArray->bMR,getElem?_of_mem->bMU,map_append->bMV,mem_append->bMY,length_append->bMZ,mem_cons->bNC,mapM_cons->bND,range->bNG,getElem?_append_left->bNH,getElem?_append_right->bNI,size_toArray->bNK,take_left->bNL,map_congr_left->bNM,cons_append->bNO,length_map->bNP,getD->bNQ,append_assoc->bNR,getElem?_eq_none->bNS,getElem?_cons_succ->bNT,Pairwise->bNV,mem_range->bNY,replicate->bNZ,eq_nil_of_length_eq_zero->bOL,length_take->bOM,mem_append_right->bON,drop_left->bOO,flatMap_def->bOR
open Nat renaming le_refl->bLW,beq->bLX,zero_add->bLY,ble->bLZ,mul_one->bMG,blt->bMH,eq_of_beq_eq_true->bMK,lt_or_ge->bML,add_mul->bMQ,le_trans->bMS,lt_of_lt_of_le->bMW,add_zero->bMX,exists_eq_add_of_le->bNB,mul_le_mul_right->bNJ,le_of_ble_eq_true->bNU,ne_of_beq_eq_false->bOA,le_mul_of_pos_right->bOF,mul_le_mul_left->bOK,add_one_ne_zero->bOT,add_sub_cancel->bOU
open Bool renaming and_eq_true->bMC,not_eq_true'->bNE,or_eq_true->bNF,not_true->bNW,false_or->bNX
open Option renaming bind_assoc->bME,map_some->bMJ,map_eq_some_iff->bNA,bind_some->bNN,bind_eq_bind->bOB,pure_def->bOC,bind_eq_some_iff->bOD,map_none->bOH,getD_some->bOS
open Int renaming mul_le_mul_of_nonneg_right->bOG
namespace Go.Proofs.YtcnlagnipklcmaaGreatDoor
theorem aT{α:Sort _}{c:Prop}[Decidable c]{a b:α}(h:c:=by omega):ite c a b=a:=if_pos h
theorem aX{α:Sort _}{c:Prop}[Decidable c]{a b:α}(h:¬c:=by omega):ite c a b=b:=if_neg h
theorem cP{a n:Nat}(h:0<a:=by omega):0<a^n:=Nat.pow_pos h
theorem fQ{b m n:Nat}(h:0<b:=by omega)(h':m<=n:=by omega):b^m<=b^n:=Nat.pow_le_pow_right h h'
namespace M
open Go
theorem Dg(n:Int):i64.wrap n=if n%18446744073709551616>=9223372036854775808 then n%18446744073709551616-18446744073709551616 else n%18446744073709551616:=by
 show(if(true&&decide (n%18446744073709551616>=9223372036854775808))=true then n%18446744073709551616-18446744073709551616 else n%18446744073709551616)=_;simp only[Bool.true_and,decide_eq_true_eq]
theorem wrap_i64{n:Int}(h:-9223372036854775808<=n:=by omega)(h':n<9223372036854775808:=by omega):i64.wrap n=n:=by
 rw[Dg];split <;> omega
theorem eE(n:Int):u64.wrap n=n%18446744073709551616:=by
 show(if(false&&decide (n%18446744073709551616>=9223372036854775808))=true then n%18446744073709551616-18446744073709551616 else n%18446744073709551616)=_;simp
theorem wrap_u64{n:Int}(h:0<=n:=by omega)(h':n<18446744073709551616:=by omega):u64.wrap n=n:=by
 rw[eE];omega
theorem wrap_u32(n:Int):u32.wrap n=n%4294967296:=by
 show(if(false&&decide (n%4294967296>=2147483648))=true then n%4294967296-4294967296 else n%4294967296)=_;simp
end M
namespace AI
open Go Go.RowKit
def leB:Int->Int->Bool
 | .ofNat m,.ofNat n=>bLZ m n
 | .negSucc _,.ofNat _=>true
 | .ofNat _,.negSucc _=>false
 | .negSucc m,.negSucc n=>bLZ n m
theorem Fg(a b:Int):leB a b=true↔a<=b:=by
 cases a <;> cases b <;> simp only[leB,Nat.ble_eq,Bool.false_eq_true,true_iff,false_iff,Int.ofNat_eq_natCast] <;> omega
instance (priority:=2000) decLeI (a b:Int):Decidable (a<=b):=match h:leB a b with
 |true=>isTrue ((Fg a b).1 h)
 |false=>isFalse fun h'=>by rw[(Fg a b).2 h']at h;cases h
instance (priority := 2000) decLtI (a b : Int) : Decidable (a < b) := match h : leB b a with
  | true => isFalse fun h' => by have := (Fg b a).1 h; omega
  | false => isTrue (by have h1 : ¬ b ≤ a := fun h' => by rw [(Fg b a).2 h'] at h; cases h
                        omega)
inductive S where
 |sc (v:Value)
 |ints (k:IntKind) (ns:List Int)
 |bot
inductive L where
 |s (x:S)
 |rows (sz n:Nat) (f:Nat->List S)
 |Jq (cs:List S)
 |Ns (k:IntKind) (ns:List Int)
 |ptr (id off:Nat)
 |Mn (id i:Nat)
 |buf (id n:Nat)
 |view (id off n:Nat)
inductive V where
 |one (l:L)
 |agg (cs:List S)
inductive A where
 |v (x:V)
 |It (xs:List V)
 |any
inductive rI where
 |ints (k:IntKind) (ns:List Int)
 |cells (cs:List S)
structure iM where
 e:TypeId
 cont:rI
structure St where
 fr:Nat->A
 hp:Nat->Option iM
 n:Nat
inductive D where
 |s (x:S)
 |rows (sz n:Nat) (f:Nat->List S)
 |agg (cs:List S)
 |own (e:TypeId) (k:IntKind) (ns:List Int)
 |io (e:TypeId) (k:IntKind) (ns:List Int) (off n:Nat)
 |back (i off n:Nat)
inductive TK where
 |bool
 |int (k:IntKind)
 |float (k:FloatKind)
 |other
 |struct (fs:List (Nat×Nat×Bool))
 |arr (len nP:Nat) (eagg:Bool)
 |slice (elem:TypeId)
 |str
structure TI where
 size:Nat
 bytes:Nat
 zero:List Value
 kind:TK
def TK.isAgg:TK->Bool
 | .struct _=>true
 | .arr _ _ _=>true
 |_=>false
abbrev yJ(v:Value):A:=.v (.one (.s (.sc v)))
abbrev xQ{α:Type}(f:Nat->α)(d:Nat)(a:α):Nat->α:=fun i=>bif bLX i d then a else f i
def bitsI0(op:BinOp)(k:IntKind)(x y:Int):Int :=
 match op with
 | .and=>k.wrap (BitVec.ofInt k.bits x &&& BitVec.ofInt k.bits y).toNat
 | .or=>k.wrap (BitVec.ofInt k.bits x |||BitVec.ofInt k.bits y).toNat
 | .xor=>k.wrap (BitVec.ofInt k.bits x ^^^ BitVec.ofInt k.bits y).toNat
 |_=>k.wrap (BitVec.ofInt k.bits x &&& ~~~(BitVec.ofInt k.bits y)).toNat
theorem Rd:∃f:BinOp->IntKind->Int->Int->Int,f=bitsI0:=⟨_,rfl⟩
def eN:BinOp->IntKind->Int->Int->Int:=Classical.choose Rd
theorem sH:eN=bitsI0:=Classical.choose_spec Rd
def binK{R:Type}(op:BinOp)(x y:Value)(K:Value->Option R):Option R :=
 match x,y with
 | .int k a,.int k' b =>
  match op with
  | .shl=>if b<0 then none else K (.int k (k.wrap (a*((2^(min b.toNat k.bits):Nat):Int))))
  | .shr=>if b<0 then none else K (.int k (a/((2^(min b.toNat k.bits):Nat):Int)))
  | .add=>if k=k' then K (.int k (k.wrap (a+b)))else none
  | .sub=>if k=k' then K (.int k (k.wrap (a-b)))else none
  | .mul=>if k=k' then K (.int k (k.wrap (a*b)))else none
  | .quo=>if k=k' then(if b=0 then none else K (.int k (k.wrap (a.tdiv b))))else none
  | .rem=>if k=k' then(if b=0 then none else K (.int k (a.tmod b)))else none
  | .and=>if k=k' then K (.int k (eN .and k a b))else none
  | .or=>if k=k' then K (.int k (eN .or k a b))else none
  | .xor=>if k=k' then K (.int k (eN .xor k a b))else none
  | .andNot=>if k=k' then K (.int k (eN .andNot k a b))else none
  | .eql=>if k=k' then K (.bool (a==b))else none
  | .neq=>if k=k' then K (.bool (a !=b))else none
  | .lss=>if k=k' then K (.bool (decide (a<b)))else none
  | .leq=>if k=k' then K (.bool (decide (a<=b)))else none
  | .gtr=>if k=k' then K (.bool (decide (b<a)))else none
  | .geq=>if k=k' then K (.bool (decide (b<=a)))else none
 | .float k a,.float k' b =>
  match op with
  | .add=>if k=k' then(k.format.add a b).bind fun r=>K (.float k r)else none
  | .sub=>if k=k' then(k.format.sub a b).bind fun r=>K (.float k r)else none
  | .mul=>if k=k' then(k.format.mul a b).bind fun r=>K (.float k r)else none
  | .quo=>if k=k' then(k.format.div a b).bind fun r=>K (.float k r)else none
  | .eql=>if k=k' then K (.bool (k.format.order a b==some .eq))else none
  | .neq=>if k=k' then K (.bool (k.format.order a b !=some .eq))else none
  | .lss=>if k=k' then K (.bool (k.format.order a b==some .lt))else none
  | .leq=>if k=k' then K (.bool (k.format.order a b==some .lt||k.format.order a b==some .eq))else none
  | .gtr=>if k=k' then K (.bool (k.format.order a b==some .gt))else none
  | .geq=>if k=k' then K (.bool (k.format.order a b==some .gt||k.format.order a b==some .eq))else none
  |_=>none
 | .bool a,.bool b =>
  match op with
  | .eql=>K (.bool (a==b))
  | .neq=>K (.bool (a !=b))
  |_=>none
 |_,_=>none
def boolT(t:Option TI)(a:Value):Bool:=match a with
 | .bool _=>match t with
  |some ⟨_,_,_,.bool⟩=>true
  |_=>false
 |_=>true
def unK{R:Type}(op:UnOp)(x:Value)(K:Value->Option R):Option R :=
 match op,x with
 | .neg,.int k n=>K (.int k (k.wrap (0-n)))
 | .xor,.int k n=>K (.int k (eN .xor k (if k.signed then -1 else k.max) n))
 | .neg,.float k b=>K (.float k (Op.negFloat k b))
 | .not,.bool b=>K (.bool (!b))
 |_,_=>none
def convK{R:Type}(dst:TK)(x:Value)(K:Value->Option R):Option R :=
 match dst,x with
 | .int k,.int _ n=>K (.int k (k.wrap n))
 | .float k,.int _ n=>K (.float k (k.nearest n))
 | .int k,.float s b=>((s.decode b).toInt .zero).bind fun n=>if k.min<=n/\n<=k.max then K (.int k n)else none
 | .float k,.float s b=>if s=k then K (.float k b)else none
 |_,_=>none
def refsL:L->List Nat
 | .ptr id _=>[id]
 | .Mn id _=>[id]
 | .buf id _=>[id]
 | .view id _ _=>[id]
 |_=>[]
def refsV:V->List Nat
 | .one l=>refsL l
 | .agg _=>[]
def refs:A->List Nat
 | .v x=>refsV x
 | .It xs=>xs.flatMap refsV
 | .any=>[]
def cellsOf(hp:Nat->Option iM):A->Option (List S×List (Nat×Option iM))
 | .v (.agg cs)=>some (cs,[])
 | .v (.one (.s x))=>some ([x],[])
 | .v (.one (.buf id _))=>match hp id with
  |some ⟨_,.ints k ns⟩=>some ([.ints k ns],[(id,none)])
  |_=>none
 | .v (.one (.view id off n))=>match hp id with
  |some ⟨_,.ints k ns⟩=>some ([.ints k ((ns.drop off).take n)],[(id,none)])
  |_=>none
 |_=>none
def toD(hp:Nat->Option iM):A->Option D
 | .v (.agg cs)=>some (.agg cs)
 | .v (.one (.s x))=>some (.s x)
 | .v (.one (.rows sz n f))=>some (.rows sz n f)
 | .v (.one (.buf id n))=>match hp id with
  |some ⟨_,.ints k ns⟩=>some (.s (.ints k ns))
  |some ⟨_,.cells cs⟩=>if n*(cs.length/n)=cs.length/\0<n then some (.rows (cs.length/n) n fun i=>(cs.drop (i*(cs.length/n))).take (cs.length/n))else none
  |none=>none
 | .v (.one (.view id off n))=>match hp id with
  |some ⟨_,.ints k ns⟩=>some (.s (.ints k ((ns.drop off).take n)))
  |_=>none
 |_=>none
def setAt(cs:List S)(off:Nat)(new:List S):List S:=cs.take off ++ (new ++ cs.drop (off+new.length))
def fillK{R:Type}(hp:Nat->Option iM)(place:Nat->Option (Nat×Nat))(ev:Operand->A):List (Nat×Operand)->List S->List (Nat×Option iM)->(List S->List (Nat×Option iM)->Option R)->Option R
 | [],cs,aHA,K=>K cs aHA
 | (i,x) :: rest,cs,aHA,K =>
  match place i,cellsOf hp (ev x)with
  |some (off,size),some (new,u)=>if new.length=size/\off+new.length<=cs.length then fillK hp place ev rest (setAt cs off new) (aHA ++ u) K else none
  |_,_=>none
def partOf(ti:TI)(cs:List S)(off:Nat):Option V :=
 if _g:ti.kind.isAgg=true then(if _h:off+ti.size<=cs.length then some (.agg ((cs.drop off).take ti.size))else none)
 else match cs[off]? with
  |some c=>some (.one (.s c))
  |none=>none
def allInts(k:IntKind):List S->Option (List Int)
 | []=>some []
 | .sc (.int k' n) :: r=>if _h:k=k' then(allInts k r).map (n :: ·)else none
 |_ :: _=>none
def intsOf(hp:Nat->Option iM)(k:IntKind):A->Option (List Int)
 | .v (.one (.s (.ints k' ns)))=>if _h:k=k' then some ns else none
 | .v (.one (.s (.sc (.slice none 0 0))))=>some []
 | .v (.one (.buf id _))=>match hp id with
  |some ⟨_,.ints k' ns⟩=>if _h:k=k' then some ns else none
  |_=>none
 | .v (.one (.view id off n))=>match hp id with
  |some ⟨_,.ints k' ns⟩=>if _h:k=k' then some ((ns.drop off).take n)else none
  |_=>none
 |_=>none
def room:Int:=8796093022208
def takeIn(keep:Bool)(id:Nat):D->V×List (Nat×Option iM)
 | .s x=>(.one (.s x),[])
 | .rows sz n f=>(.one (.rows sz n f),[])
 | .agg cs=>(.agg cs,[])
 | .own e k ns=>bif keep then(.one (.buf id ns.length),[(id,some ⟨e,.ints k ns⟩)])else(.one (.s (.ints k ns)),[])
 | .io _ _ _ _ _=>(.one (.s .bot),[])
 | .back i off n=>(.one (.view i off n),[])
def takeAll(keep:Bool)(id:Nat):List D->List V×List (Nat×Option iM)
 | []=>([],[])
 |d :: r=>((takeIn keep id d).1 :: (takeAll keep (id+1) r).1,(takeIn keep id d).2 ++ (takeAll keep (id+1) r).2)
def Eu:S->Bool
 | .ints _ _=>true
 | .bot=>true
 | .sc (.slice (some _) _ _)=>true
 |_=>false
def shares:D->Bool
 | .s x=>Eu x
 | .rows _ _ _=>true
 | .agg cs=>cs.any Eu
 | .own _ _ _=>false
 | .io _ _ _ _ _=>true
 | .back _ _ _=>false
structure Env where
 T:TypeId->Option TI
 C:FuncId->List D->Option (Prop×List D)
 ext:FuncId->List Value->Option (Prop×List Value)
 glob:Nat->Option (IntKind×List Int)
 nt:Nat
 own:List Nat
 keep:Nat->List Nat
 roll:Nat->Option Nat
 cut:Nat->Option (List Nat)
 n0:Nat:=0
 io:List Nat:=[]
 ioF:FuncId->List Nat:=fun _=>[]
 wide:Option IntKind:=none
 short:Bool:=false
def wideS(w:Option IntKind)(v:Value):S:=match w with
 |none=>.sc v
 |some k=>match v with
  | .slice none 0 0=>.ints k []
  |v=>.sc v
def evA(E:Env)(fr:Nat->A):Operand->A
 | .tmp t=>fr t
 | .const v=>if _h:v.oneCell'=true then yJ v else .any
 | .global g=>match E.glob g with
  |some (k,ns)=>.v (.one (.Ns k ns))
  |none=>.any
 | .func f=>yJ (.func (.func f) #[] #[])
def funOf:A->Option FuncId
 | .v (.one (.s (.sc (.func (.func f) ⟨[]⟩ ⟨[]⟩))))=>some f
 |_=>none
abbrev nZ:=List (Nat×Option iM)
def bndA(d:Int):Option A->Option Int
 |none=>some d
 |some (.v (.one (.s (.sc (.int _ n)))))=>some n
 |_=>none
def sliceK{R:Type}(len:Nat)(lo hi mx:Option A)(K:Nat->Nat->Option R):Option R :=
 match bndA 0 lo,bndA len hi,mx with
 |some l,some h,none=>if 0<=l/\l<=h/\h<=len then K l.toNat h.toNat else none
 |some l,some h,some mx=>match hi,bndA len (some mx)with
  |some _,some m=>if 0<=l/\l<=h/\h<=m/\m<=len then K l.toNat h.toNat else none
  |_,_=>none
 |_,_,_=>none
abbrev aB{R:Type}(b:Bool)(x y:Option R):Option R:=bif b then x else y
def splitN{R:Type}(n:Int):Nat->Nat->(Nat->Option R)->Option R
 |0,_,_=>none
 |m+1,j,K=>aB (decide (n=(j:Int))) (K j) (splitN n m (j+1) K)
def idxK{R:Type}(hp:Nat->Option iM)(t:TI)(nP:Nat)(x:A)(n:Int)(K:A->Option R):Option R :=
 match x with
 | .v (.one (.s (.ints k ns)))=>if nP=1 then(if 0<=n/\n<(ns.length:Int)then K (.v (.one (.Jq [.sc (.int k (ns.getD n.toNat 0))])))else none)else none
 | .v (.one (.buf id m))=>match hp id with
  |some ⟨_,.ints _ _⟩=>if nP=1 then(if 0<=n/\n<(m:Int)then K (.v (.one (.Mn id n.toNat)))else none)else none
  |some ⟨_,.cells _⟩=>if 0<=n/\n<(m:Int)then K (.v (.one (.ptr id (n.toNat*nP))))else none
  |none=>none
 | .v (.one (.view id off m))=>match hp id with
  |some ⟨_,.ints _ _⟩=>if nP=1 then(if 0<=n/\n<(m:Int)then K (.v (.one (.Mn id (off+n.toNat))))else none)else none
  |_=>none
 | .v (.one (.rows sz m f))=>if sz=nP then(if 0<=n/\n<(m:Int)then K (.v (.one (.Jq (f n.toNat))))else none)else none
 | .v (.one (.ptr id off))=>match t.kind with
  | .arr len _ _=>bif bLZ len 8 then splitN n len 0 (fun j=>K (.v (.one (.ptr id (off+j*nP)))))else if 0<=n/\n<(len:Int)then K (.v (.one (.ptr id (off+n.toNat*nP))))else none
  |_=>none
 | .v (.one (.Ns k ns))=>match t.kind with
  | .arr len _ _=>if ns.length=len/\nP=1 then(if 0<=n/\n<(len:Int)then K (.v (.one (.Jq [.sc (.int k (ns.getD n.toNat 0))])))else none)else none
  |_=>none
 |_=>none
def Mo{R:Type}(sh:Bool)(hp:Nat->Option iM)(t:TI)(nP:Nat)(x:A)(n:Int)(K:A->Option R):Option R:=match sh,x with
 |true,.v (.one (.buf id m))=>match hp id with
  |some ⟨_,.cells cs⟩=>splitN n (cs.length/nP) 0 fun j=>idxK hp t nP (.v (.one (.buf id m))) (j:Int) K
  |_=>idxK hp t nP (.v (.one (.buf id m))) n K
 |_,x=>idxK hp t nP x n K
def intArg:A->Option (IntKind×Int)
 | .v (.one (.s (.sc (.int k n))))=>some (k,n)
 |_=>none
def foldMM(op:BinOp)(k:IntKind):Int->List A->Option Int
 |n,[]=>some n
 |n,.v (.one (.s (.sc (.int k' m)))) :: r=>if _h:k=k' then foldMM op k (match op with | .gtr=>if m>n then m else n |_=>if m<n then m else n) r else none
 |_,_=>none
def lenA:A->Option Nat
 | .v (.one (.s (.ints _ ns)))=>some ns.length
 | .v (.one (.s (.sc (.slice none 0 0))))=>some 0
 | .v (.one (.buf _ n))=>some n
 | .v (.one (.view _ _ n))=>some n
 | .v (.one (.rows _ n _))=>some n
 |_=>none
def argVals:List A->Option (List Value)
 | []=>some []
 | .v (.one (.s (.sc v))) :: r=>(argVals r).map (v :: ·)
 |_ :: _=>none
def Di(s:ByteArray)(n:Int):Int:=match s[n.toNat]? with
 |some b=>b.toNat
 |none=>0
def aRW:List Value->A
 | [v]=>yJ v
 |vs=>.It (vs.map fun v=>.one (.s (.sc v)))
def keepOf(E:Env)(o:Oper):Bool:=match o.dst with
 |some d=>E.own.contains d
 |none=>false
open Classical in
def aO {R:Type} (g:Prop) (a:Option R):Option R:=if g then a else none
def aC{α R:Type}(x:α)(k:α->Option R):Option R:=k x
theorem aK{α R:Type}(x:α)(k:α->Option R):aC x k=k x:=rfl
def shS{R:Type}(s:S)(K:S->Option R):Option R:=match s with
 | .sc (.int k n)=>aC n fun n=>K (.sc (.int k n))
 | .sc (.bool b)=>aC b fun b=>K (.sc (.bool b))
 | .sc (.float k b)=>aC b fun b=>K (.sc (.float k b))
 | .ints k ns=>aC ns fun ns=>K (.ints k ns)
 |s=>K s
def shCs{R:Type}:List S->(List S->Option R)->Option R
 | [],K=>K []
 |s :: r,K=>shS s fun s=>shCs r fun r=>K (s :: r)
def shD{R:Type}(d:D)(K:D->Option R):Option R:=match d with
 | .s x=>shS x fun x=>K (.s x)
 | .agg cs=>shCs cs fun cs=>K (.agg cs)
 | .own e k ns=>aC ns fun ns=>K (.own e k ns)
 | .io e k ns off n=>aC ns fun ns=>K (.io e k ns off n)
 |d=>K d
def shDs{R:Type}:List D->(List D->Option R)->Option R
 | [],K=>K []
 |d :: r,K=>shD d fun d=>shDs r fun r=>K (d :: r)
theorem aCC{R:Type}(s:S)(K:S->Option R):shS s K=K s:=by
 unfold shS;split <;> rfl
theorem Wb{R:Type}:∀(cs:List S) (K:List S->Option R),shCs cs K=K cs
 | [],_=>rfl
 |s :: r,K=>by unfold shCs;rw[aCC,Wb r]
theorem aNC{R:Type}(d:D)(K:D->Option R):shD d K=K d:=by
 unfold shD;split
 ·exact aCC _ _
 ·exact Wb _ _
 ·rfl
 ·rfl
 ·rfl
theorem Af{R:Type}:∀(ds:List D) (K:List D->Option R),shDs ds K=K ds
 | [],_=>rfl
 |d :: r,K=>by unfold shDs;rw[aNC,Af r]
def Jr(xs ys:List Nat):Bool:=xs.all fun x=>!(ys.elem x)
def nodup:List Nat->Bool
 | []=>true
 |x :: r=>!(r.elem x)&&nodup r
def toIO(hp:Nat->Option iM):A->Option (Nat×D)
 | .v (.one (.buf id n))=>match hp id with
  |some ⟨e,.ints k ns⟩=>some (id,.io e k ns 0 n)
  |_=>none
 | .v (.one (.view id off n))=>match hp id with
  |some ⟨e,.ints k ns⟩=>some (id,.io e k ns off n)
  |_=>none
 |_=>none
def argsIO(ps:List Nat)(hp:Nat->Option iM):Nat->List A->Option (List (Nat×Nat)×List D)
 |_,[]=>some ([],[])
 |i,a :: r=>bif ps.elem i then(match toIO hp a with
   |some (id,d)=>match argsIO ps hp (i+1) r with
    |some (us,ds)=>some ((i,id) :: us,d :: ds)
    |none=>none
   |none=>none)
  else(match toD hp a with
   |some d=>match argsIO ps hp (i+1) r with
    |some (us,ds)=>some (us,d :: ds)
    |none=>none
   |none=>none)
def mZ(ps:List Nat):Nat->List A->List Nat
 |_,[]=>[]
 |i,a :: r=>(bif ps.elem i then []else refs a) ++ mZ ps (i+1) r
def leqN:List Nat->List Nat->Bool
 | [],[]=>true
 |a :: r,b :: s=>bLX a b&&leqN r s
 |_,_=>false
def backIO:List (Nat×Nat)->List D->Option nZ
 | [],[]=>some []
 | (_,id) :: us,.io e k ns _ _ :: ds=>match backIO us ds with
  |some u=>some ((id,some ⟨e,.ints k ns⟩) :: u)
  |none=>none
 |_,_=>none
def idAt:List (Nat×Nat)->Nat->Nat
 | [],_=>0
 |q :: us,p=>bif bLX q.1 p then q.2 else idAt us p
def reBack(us:List (Nat×Nat)):D->D
 | .back p off n=>.back (idAt us p) off n
 |d=>d
def callIO{R:Type}(E:Env)(ps:List Nat)(id:Nat)(keep:Bool)(f:FuncId)(args:List A)(hp:Nat->Option iM)(K:A->nZ->Option R):Option R :=
 match argsIO ps hp 0 args with
 |none=>none
 |some (us,ds)=>bif leqN (us.map (·.1)) ps&&(nodup (us.map (·.2))&&Jr (us.map (·.2)) (mZ ps 0 args))then
  match E.C f ds with
  |none=>none
  |some (g,rs) =>
   aO g (shDs rs fun rs=>bif bLZ us.length rs.length&&bLZ rs.length 8&&!((rs.take (rs.length-us.length)).any shares)then
   match backIO us (rs.drop (rs.length-us.length))with
   |none=>none
   |some ub =>
    let r:=takeAll keep id ((rs.take (rs.length-us.length)).map (reBack us))
    match r.1 with
    | [x]=>K (.v x) (ub ++ r.2)
    |xs=>K (.It xs) (ub ++ r.2)
   else none)
  else none
def callK{R:Type}(E:Env)(id:Nat)(keep:Bool)(f:FuncId)(args:List A)(hp:Nat->Option iM)(K:A->nZ->Option R):Option R :=
 match args.mapM (toD hp)with
 |none=>none
 |some ds=>match E.C f ds with
  |none=>none
  |some (g,rs) =>
   aO g (shDs rs fun rs=>bif bLZ rs.length 8 then
   let r:=takeAll keep id rs
   let aHA:=(bif rs.any shares then(args.flatMap refs).map fun i=>(i,none)else []) ++ r.2
   match r.1 with
   | [x]=>K (.v x) aHA
   |xs=>K (.It xs) aHA
   else none)
def nF{R:Type}(n0 id:Nat)(e:TypeId)(te:TI)(s x:A)(hp:Nat->Option iM)(K:A->nZ->Option R):Option R:=match x with
 | .v (.one (.buf j m))=>match hp j with
  |some ⟨_,.cells new⟩=>if 0<m/\new.length=m*te.size then(match s with
   | .v (.one (.buf i n))=>match hp i with
    |some ⟨e',.cells cs⟩=>if e=e'/\n0<=i/\0<n/\cs.length=n*te.size/\(n+m)*te.bytes<=1073741824/\n+m<=1073741824 then K (.v (.one (.buf id (n+m)))) [(i,none),(id,some ⟨e,.cells (cs ++ new)⟩)]else none
    |_=>none
   | .v (.one (.s (.sc (.slice none 0 0))))=>if m*te.bytes<=1073741824/\m<=1073741824 then K (.v (.one (.buf id m))) [(id,some ⟨e,.cells new⟩)]else none
   |_=>none)else none
  |_=>none
 |_=>none
def builtinK{R:Type}(E:Env)(id:Nat)(b:Builtin)(args:List A)(uI:List TypeId)(hp:Nat->Option iM)(K:A->nZ->Option R):Option R :=
 match b,args,uI with
 | .len,[x],[t]=>match E.T t,lenA x with
  |some ⟨_,_,_,.slice _⟩,some n=>K (yJ (.int .i64 n)) []
  |some ⟨_,_,_,.arr n _ _⟩,_=>K (yJ (.int .i64 n)) []
  |_,_=>none
 | .max,.v (.one (.s (.sc (.int k n)))) :: r,_=>match foldMM .gtr k n r with
  |some m=>K (yJ (.int k m)) []
  |none=>none
 | .min,.v (.one (.s (.sc (.int k n)))) :: r,_=>match foldMM .lss k n r with
  |some m=>K (yJ (.int k m)) []
  |none=>none
 | .append,[s,x],[t,t']=>if t=t' then
   match E.T t with
   |some ⟨_,_,_,.slice e⟩=>match E.T e with
    |some ⟨1,bytes,_,.int k⟩=>if bytes<=8 then
      match s,intsOf hp k x with
      | .v (.one (.buf i _)),some ms=>match hp i with
       |some ⟨e',.ints k' ns⟩=>bif bMH i E.n0 then none else if e=e'/\k=k' then(if 0<ms.length/\((ns.length+ms.length:Nat):Int)<=room then K (.v (.one (.buf id (ns.length+ms.length)))) [(i,none),(id,some ⟨e,.ints k (ns ++ ms)⟩)]else none)else none
       |_=>none
      | .v (.one (.s (.sc (.slice none 0 0)))),some ms=>if 0<ms.length/\(ms.length:Int)<=room then K (.v (.one (.buf id ms.length))) [(id,some ⟨e,.ints k ms⟩)]else none
      |_,_=>none
     else none
    |some te=>nF E.n0 id e te s x hp K
    |none=>none
   |_=>none
  else none
 | .copy,[d,s],[t,_] =>
   match E.T t with
   |some ⟨_,_,_,.slice e⟩=>match E.T e with
    |some ⟨1,_,_,.int k⟩ =>
      match d,intsOf hp k s with
      | .v (.one (.buf i n)),some ms=>match hp i with
       |some ⟨e',.ints k' ns⟩=>if k=k' then K (yJ (.int .i64 (min ms.length n:Nat))) [(i,some ⟨e',.ints k (ms.take n ++ ns.drop (min ms.length n))⟩)]else none
       |_=>none
      | .v (.one (.view i off n)),some ms=>match hp i with
       |some ⟨e',.ints k' ns⟩=>if k=k'/\off+n<=ns.length then K (yJ (.int .i64 (min ms.length n:Nat))) [(i,some ⟨e',.ints k (ns.take off ++ (ms.take n ++ ns.drop (off+min ms.length n)))⟩)]else none
       |_=>none
      |_,_=>none
    |_=>none
   |_=>none
 |_,_,_=>none
def Py:List Value->Option (List IntKind)
 | []=>some []
 | .int k _ :: r=>(Py r).map (k :: ·)
 |_=>none
def uO(ti:TI):Option (List IntKind):=match ti.kind with
 | .struct fs=>if(fs.all fun f=>bLX f.2.1 1&&!f.2.2)=true then Py ti.zero else none
 |_=>none
def eqInts:List IntKind->List S->List S->Option Bool
 | [],[],[]=>some true
 |k :: ks,.sc (.int k1 a) :: r,.sc (.int k2 b) :: r'=>if k1=k/\k2=k then(eqInts ks r r').map fun q=>(a==b)&&q else none
 |_,_,_=>none
def eqAgg(t:Option TI)(cs ds:List S):Option Bool:=match t with
 |some ti=>match uO ti with
  |some ks=>eqInts ks cs ds
  |none=>none
 |none=>none
def aPB:List S->Option IntKind
 | .sc (.int k _) :: _=>some k
 |_=>none
def pickC(len m:Nat)(cs:List S):Option S:=match aPB cs with
 |some k=>match allInts k cs with
  |some ns=>bif bLX ns.length len then some (.sc (.int k (ns.getD m 0)))else cs[m]?
  |none=>cs[m]?
 |none=>cs[m]?
def aNS(len nP n:Nat)(cs:List S):Option S:=bif bLX nP 1 then pickC len n cs else cs[n*nP]?
theorem Rl{k:IntKind}{cs:List S}:∀{ns:List Int},allInts k cs=some ns->∀m,m<ns.length->cs[m]?=some (.sc (.int k (ns.getD m 0))):=by
 induction cs with
 |nil=>intro ns h m hm;cases h;simp at hm
 |cons c r ih =>
  intro ns h m hm;unfold allInts at h;split at h
  ·rename_i heq;cases heq
  ·rename_i k' n r' heq;cases heq;split at h
   ·rename_i hk;subst hk;obtain⟨rs,hr,rfl⟩:=Option.map_eq_some_iff.1 h;cases m with
    |zero=>rfl
    |succ m=>simpa using ih hr m (by simpa using hm)
   ·cases h
  ·cases h
theorem aIW{len nP:Nat}{n:Int}(cs:List S)(h:0<=n/\n<(len:Int)):aNS len nP n.toNat cs=cs[n.toNat*nP]?:=by
 unfold aNS;cases he:bLX nP 1 with
 |false=>rfl
 |true =>
  have:=bMK he;subst this;rw[cond_true,bMG];unfold pickC;split
  ·rename_i k _;split
   ·rename_i ns aQN;cases hl:bLX ns.length len with
    |false=>rfl
    |true =>
     have:=bMK hl;rw[cond_true,Rl aQN n.toNat (by omega)]
   ·rfl
  ·rfl
def effK{R:Type}(E:Env)(id:Nat)(o:Oper)(ev:Operand->A)(hp:Nat->Option iM)(K:A->nZ->Option R):Option R :=
 match o.op with
 | .move x=>K (ev x) []
 | .assign x=>K (ev x) []
 | .pick c a b=>match ev c with
  | .v (.one (.s (.sc (.bool t))))=>match ev a,ev b with
   | .v (.one (.s (.sc (.bool p)))),.v (.one (.s (.sc (.bool q))))=>K (yJ (.bool (bif t then p else q))) []
   |x,y=>bif t then K x []else K y []
  |_=>none
 | .alloc e=>match E.T e with
  |some ti=>K (.v (.one (.ptr id 0))) [(id,some ⟨e,.cells (ti.zero.map (wideS E.wide))⟩)]
  |none=>none
 | .box e x=>match E.T e,cellsOf hp (ev x)with
  |some ti,some (cs,u)=>if cs.length=ti.size then K (.v (.one (.ptr id 0))) (u ++ [(id,some ⟨e,.cells cs⟩)])else none
  |_,_=>none
 | .build t parts=>match E.T t with
  |some ⟨_,_,zero,.struct fs⟩=>fillK hp (fun i=>(fs[i]?).map fun f=>(f.1,f.2.1)) ev parts.toList (zero.map .sc) [] fun cs u=>K (.v (.agg cs)) u
  |some ⟨_,_,zero,.arr _ nP _⟩=>fillK hp (fun i=>some (i*nP,nP)) ev parts.toList (zero.map .sc) [] fun cs u=>K (.v (.agg cs)) u
  |_=>none
 | .buildSlice t len parts=>match E.T t with
  |some ⟨_,_,_,.slice e⟩=>match E.T e with
   |some ⟨size,_,zero,kind⟩ =>
    if len*size<=16777216/\0<size then
    fillK hp (fun i=>some (i*size,size)) ev parts.toList ((bNG (len*size)).map fun i=>S.sc (zero.getD (i%size) undef)) [] fun cs u =>
     match kind,size with
     | .int k,1=>match allInts k cs with
      |some ns=>K (.v (.one (.buf id len))) (u ++ [(id,some ⟨e,.ints k ns⟩)])
      |none=>none
     |_,_=>K (.v (.one (.buf id len))) (u ++ [(id,some ⟨e,.cells cs⟩)])
    else none
   |none=>none
  |_=>none
 | .load t x=>match E.T t with
  |some ti=>match ev x with
   | .v (.one (.ptr i off))=>match hp i with
    |some ⟨_,.cells cs⟩=>match partOf ti cs off with
     |some v=>K (.v v) []
     |none=>none
    |_=>none
   | .v (.one (.Mn i j))=>match hp i,ti.kind.isAgg with
    |some ⟨_,.ints k ns⟩,false=>K (yJ (.int k (ns.getD j 0))) []
    |_,_=>none
   | .v (.one (.Jq cs))=>match partOf ti cs 0 with
    |some v=>K (.v v) []
    |none=>none
   |_=>none
  |none=>none
 | .store t x y=>match E.T t with
  |some ti=>match ev x with
   | .v (.one (.ptr i off))=>match hp i,cellsOf hp (ev y)with
    |some ⟨e,.cells cs⟩,some (new,u)=>if new.length=ti.size/\off+new.length<=cs.length/\(u.all fun p=>p.1 !=i)=true then K .any (u ++ [(i,some ⟨e,.cells (setAt cs off new)⟩)])else none
    |_,_=>none
   | .v (.one (.Mn i j))=>match hp i,ev y with
    |some ⟨e,.ints k ns⟩,.v (.one (.s (.sc (.int k' n))))=>if k=k'/\ti.size=1 then K .any [(i,some ⟨e,.ints k (ns.set j n)⟩)]else none
    |_,_=>none
   |_=>none
  |none=>none
 | .binOp op t x y _=>match ev x,ev y with
  | .v (.one (.s (.sc a))),.v (.one (.s (.sc b)))=>bif boolT (E.T t) a then binK op a b fun r=>K (yJ r) []else none
  | .v (.agg cs),.v (.agg ds)=>match eqAgg (E.T t) cs ds with
   |some b=>match op with
    | .eql=>K (yJ (.bool b)) []
    | .neq=>K (yJ (.bool (!b))) []
    |_=>none
   |none=>none
  |_,_=>none
 | .unOp op _ x=>match ev x with
  | .v (.one (.s (.sc a)))=>unK op a fun r=>K (yJ r) []
  |_=>none
 | .convert s d x=>match E.T s,E.T d,ev x with
  |some _,some ti,.v (.one (.s (.sc a)))=>convK ti.kind a fun r=>K (yJ r) []
  |_,_,_=>none
 | .makeSlice t l c=>match E.T t,intArg (ev l),intArg (ev c)with
  |some ⟨_,_,_,.slice e⟩,some (_,a),some (_,b)=>match E.T e with
   |some ⟨1,bytes,[.int k0 z0],.int k⟩=>if bytes<=8/\0<bytes/\k0=k/\z0=0 then
     (if 0<=a/\a<=b/\b<=room then K (.v (.one (.buf id a.toNat))) [(id,some ⟨e,.ints k (bNZ a.toNat 0)⟩)]else none)else none
   |_=>none
  |_,_,_=>none
 | .slice t x lo hi mx=>match E.T t with
  |some ⟨_,_,_,.slice e⟩=>match E.T e with
   |some ⟨1,_,_,.int k⟩=>match ev x with
    | .v (.one (.s (.ints k' ns)))=>if k=k' then sliceK ns.length (lo.map ev) (hi.map ev) (mx.map ev) fun l h=>K (.v (.one (.s (.ints k ((ns.take h).drop l))))) []else none
    | .v (.one (.s (.sc (.slice none 0 0))))=>sliceK 0 (lo.map ev) (hi.map ev) (mx.map ev) fun _ _=>K (.v (.one (.s (.ints k [])))) []
    | .v (.one (.buf i n))=>sliceK n (lo.map ev) (hi.map ev) (mx.map ev) fun l h=>K (.v (.one (.view i l (h-l)))) []
    | .v (.one (.view i off n))=>sliceK n (lo.map ev) (hi.map ev) (mx.map ev) fun l h=>K (.v (.one (.view i (off+l) (h-l)))) []
    |_=>none
   |some te=>match ev x with
    | .v (.one (.rows sz n f))=>if sz=te.size then sliceK n (lo.map ev) (hi.map ev) (mx.map ev) fun l h=>K (.v (.one (.rows sz (h-l) fun i=>f (l+i)))) []else none
    |_=>none
   |none=>none
  |_=>none
 | .fieldAddr t x f=>match E.T t with
  |some ⟨_,_,_,.struct fs⟩=>match fs[f]?,ev x with
   |some (off,size,_),.v (.one (.ptr i o))=>if 0<size then K (.v (.one (.ptr i (o+off)))) []else none
   |some (off,size,_),.v (.one (.Jq cs))=>if 0<size then K (.v (.one (.Jq (cs.drop off)))) []else none
   |_,_=>none
  |_=>none
 | .field t x f=>match E.T t with
  |some ⟨_,_,_,.struct fs⟩=>match fs[f]?,ev x with
   |some (off,size,g),.v (.agg cs)=>match (bif g then(if _h:off+size<=cs.length then some (V.agg ((cs.drop off).take size))else none)else(cs[off]?).map fun c=>V.one (.s c))with
    |some v=>K (.v v) []
    |none=>none
   |_,_=>none
  |_=>none
 | .indexAddr t x i=>match E.T t,intArg (ev i)with
  |some ti,some (_,n)=>match ti.kind with
   | .slice e=>match E.T e with
    |some te=>match ev x with
     | .v (.one (.ptr _ _))=>none
     | .v (.one (.Ns _ _))=>none
     |xa=>Mo E.short hp ti te.size xa n fun a=>K a []
    |none=>none
   | .arr _ nP _=>match ev x with
    | .v (.one (.ptr i off))=>idxK hp ti nP (.v (.one (.ptr i off))) n fun a=>K a []
    | .v (.one (.Ns k ns))=>idxK hp ti nP (.v (.one (.Ns k ns))) n fun a=>K a []
    |_=>none
   |_=>none
  |_,_=>none
 | .index t x i=>match E.T t,ev x,intArg (ev i)with
  |some ⟨_,_,_,.arr len nP g⟩,.v (.agg cs),some (_,n)=>if 0<=n/\n<len then
    match (bif g then(if _h:n.toNat*nP+nP<=cs.length then some (V.agg ((cs.drop (n.toNat*nP)).take nP))else none)else(aNS len nP n.toNat cs).map fun c=>V.one (.s c))with
    |some v=>K (.v v) []
    |none=>none
   else none
  |some ⟨_,_,_,.str⟩,.v (.one (.s (.sc (.string s)))),some (_,n)=>if 0<=n/\n<(s.size:Int)then K (yJ (.int .u8 (Di s n))) []else none
  |_,_,_=>none
 | .extract x i=>match ev x with
  | .It xs=>match xs[i]? with
   |some v=>K (.v v) []
   |none=>none
  |_=>none
 | .call ⟨.value fo,args,_⟩=>match funOf (ev fo)with
  |some f=>match (argVals (args.toList.map ev)).bind (E.ext f)with
   |some (g,vs)=>aO g (K (aRW vs) [])
   |none=>match E.ioF f with
    | []=>callK E id (keepOf E o) f (args.toList.map ev) hp K
    |p :: ps=>callIO E (p :: ps) id (keepOf E o) f (args.toList.map ev) hp K
  |none=>none
 | .call ⟨.builtin b,args,uI⟩=>builtinK E id b (args.toList.map ev) uI.toList hp K
 |_=>none
def applyUps:nZ->(Nat->Option iM)->Nat->Option iM
 | [],hp=>hp
 | (i,b) :: r,hp=>applyUps r (xQ hp i b)
def zE(o:Oper)(a:A)(fr:Nat->A):Nat->A :=
 match o.dst with
 |some d=>xQ fr d a
 |none=>fr
def after(o:Oper)(st:St)(a:A)(u:nZ):St:=⟨zE o a st.fr,applyUps u st.hp,st.n⟩
def oX(E:Env)(id:Nat)(o:Oper)(ev:Operand->A)(hp:Nat->Option iM):Option (A×nZ):=effK E id o ev hp fun a u=>some (a,u)
structure Rec where
 i:Nat
 o:Oper
 aBD:List Nat
 aHA:List Nat
def qQ(o:Oper)(ev:Operand->A)(u:nZ):List Nat:=(o.op.operands.toList.flatMap fun x=>refs (ev x)) ++ u.map (·.1)
def befB(ops:Array Oper)(j:Nat):Nat->Oper->Bool
 |0,_=>false
 |n+1,o=>o.after.any fun e=>Region.binds .any e&&(e.on==j||(match ops[e.on]? with |some o'=>befB ops j n o' |none=>false))
def indep(ops:Array Oper)(r:Rec)(_i:Nat)(o:Oper)(aBD aHA:List Nat):Bool :=
 (o.after.any fun e=>Region.binds .any e&&e.on==r.i)||(r.o.apart ops o&&Jr r.aHA aBD&&Jr aHA r.aBD)||befB ops r.i 3 o
def gY(nt:Nat)(o:Oper):Bool:=match o.dst with
 |some d=>bMH d nt
 |none=>true
def uZ(i:Nat)(o:Oper):Bool:=o.after.all fun e=>!Region.binds .any e||bMH e.on i
def opsK{R:Type}(E:Env)(draw:Bool)(ops:Array Oper)(base:Nat):List Oper->Nat->List Rec->St->(St->Option R)->Option R
 | [],_,_,st,K=>K st
 |o :: rest,i,mJ,st,K =>
  bif gY E.nt o&&(!draw||uZ i o)then
  match o.guard with
  |none=>effK E (base+8*i) o (evA E st.fr) st.hp fun a u =>
    let t:=qQ o (evA E st.fr) u
    bif !draw||mJ.all fun r=>indep ops r i o t (u.map (·.1))then opsK E draw ops base rest (i+1) (⟨i,o,t,u.map (·.1)⟩ :: mJ) (after o st a u) K else none
  |some (j,want)=>match (ops[j]?).bind (·.dst)with
   |some d=>match st.fr d with
    | .v (.one (.s (.sc (.bool b)))) =>
     let go (lit:Bool):Option R :=
      let eI:St:=⟨xQ st.fr d (yJ (.bool lit)),st.hp,st.n⟩
      bif lit==want then
       effK E (base+8*i) o (evA E eI.fr) eI.hp fun a u =>
        let t:=qQ o (evA E eI.fr) u
        bif !draw||mJ.all fun r=>indep ops r i o t (u.map (·.1))then opsK E draw ops base rest (i+1) (⟨i,o,t,u.map (·.1)⟩ :: mJ) (after o eI a u) K else none
      else bif !draw||mJ.all fun r=>indep ops r i o [] []then opsK E draw ops base rest (i+1) (⟨i,o,[],[]⟩ :: mJ) (after o eI (.It []) []) K else none
     aB b (go true) (go false)
    | .It []=>bif !draw||mJ.all fun r=>indep ops r i o [] []then opsK E draw ops base rest (i+1) (⟨i,o,[],[]⟩ :: mJ) (after o st (.It []) []) K else none
    |_=>none
   |none=>none
  else none
inductive Ex where
 |normal
 |exit (id:Nat)
 |ret
abbrev KV:=A×Option iM
def aEG(st:St)(s:Nat):Option (Nat×A):=match st.fr s with
 | .v (.one (.buf i n))=>match st.hp i with
  |some ⟨_,.cells cs⟩=>if n*(cs.length/n)=cs.length/\0<n then some (i,.v (.one (.rows (cs.length/n) n fun j=>(cs.drop (j*(cs.length/n))).take (cs.length/n))))else none
  |_=>none
 |_=>none
def canonGo(n0:Nat)(st:St):List Nat->Nat->List Nat->List KV
 | [],_,_=>[]
 |s :: r,p,seen=>bif bLZ 1000000 s then(match aEG st (s%1000000)with
   |some (i,a)=>bif seen.elem i then(.any,none) :: canonGo n0 st r (p+1) seen else(a,none) :: canonGo n0 st r (p+1) (i :: seen)
   |none=>(.any,none) :: canonGo n0 st r (p+1) seen)else
  match st.fr (s%1000000)with
  | .v (.one (.buf i n))=>bif seen.elem i then(.any,none) :: canonGo n0 st r (p+1) seen else(.v (.one (.buf p n)),st.hp i) :: canonGo n0 st r (p+1) (i :: seen)
  | .v (.one (.ptr i 0))=>bif seen.elem i then(.any,none) :: canonGo n0 st r (p+1) seen else(.v (.one (.ptr p 0)),st.hp i) :: canonGo n0 st r (p+1) (i :: seen)
  | .v (.one (.ptr _ _))=>(.any,none) :: canonGo n0 st r (p+1) seen
  | .v (.one (.Mn _ _))=>(.any,none) :: canonGo n0 st r (p+1) seen
  | .v (.one (.view i off n))=>bif bMH i n0 then(.v (.one (.view i off n)),none) :: canonGo n0 st r (p+1) seen else(.any,none) :: canonGo n0 st r (p+1) seen
  | .It _=>(.any,none) :: canonGo n0 st r (p+1) seen
  |a=>(a,none) :: canonGo n0 st r (p+1) seen
def canonIO(st:St):Nat->Nat->List KV
 |0,_=>[]
 |n+1,i=>(.any,st.hp i) :: canonIO st n (i+1)
def below:Nat->List Nat
 |0=>[]
 |n+1=>n :: below n
def canon(n0:Nat)(keep:List Nat)(st:St):List KV:=canonIO st n0 0 ++ canonGo n0 st keep n0 (below n0)
def slotGo(t:Nat):List Nat->List KV->A
 |s :: r,kv :: l=>bif bLX t (s%1000000)then kv.1 else slotGo t r l
 |_,_=>.any
def blkGo:Nat->List KV->Option iM
 |_,[]=>none
 |0,kv :: _=>kv.2
 |n+1,_ :: l=>blkGo n l
def mk(n0:Nat)(keep:List Nat)(l:List KV):St:=⟨fun t=>slotGo t keep (l.drop n0),fun i=>blkGo i l,n0+keep.length⟩
def keyOf:Code->Nat
 | .region id _ _=>id
 | .seq a _=>keyOf a
 | .block _ c=>keyOf c
 | .loop c=>keyOf c
 | .scope c=>keyOf c
 |_=>0
section
variable {α R:Type}
def iter(G:(α->Option R)->α->Option R):Nat->α->Option R
 |0=>fun _=>none
 |n+1=>G (iter G n)
open Classical in
def fix (G:(α->Option R)->α->Option R) (a:α):Option R :=
 if h:∃r,∃n,iter G n a=some r then some (Classical.choose h)else none
end
abbrev roundOf{R:Type}(ec:Code->St->(Ex->St->Option R)->Option R)(n0:Nat)(keep:List Nat)(c:Code)(K:Ex->St->Option R)(rec:List KV->Option R)(l:List KV):Option R :=
 ec c (mk n0 keep l) fun ex eI=>match ex with
  | .normal=>rec (canon n0 keep eI)
  | .exit i=>K (.exit i) eI
  | .ret=>K .ret eI
def yC{R:Type}(_key:Nat)(l:List KV)(k:List KV->Option R):Option R:=k l
def evalCode{R:Type}(E:Env):Code->St->(Ex->St->Option R)->Option R
 | .skip,st,K=>K .normal st
 | .label _,st,K=>K .normal st
 | .region _ ops draw,st,K=>opsK E draw ops st.n ops.toList 0 [] st fun eI=>K .normal ⟨eI.fr,eI.hp,st.n+8*ops.size⟩
 | .seq a b,st,K=>evalCode E a st fun ex eI=>match ex with
  | .normal=>match E.cut (keyOf b)with
   |some keep=>yC (keyOf b) (canon E.n0 keep eI) fun l=>evalCode E b (mk E.n0 keep l) K
   |none=>evalCode E b eI K
  | .exit i=>K (.exit i) eI
  | .ret=>K .ret eI
 | .cond c a b,st,K=>match c with
  | .tmp s=>match st.fr s with
   | .v (.one (.s (.sc (.bool t))))=>aB t (evalCode E a ⟨xQ st.fr s (yJ (.bool true)),st.hp,st.n⟩ K) (evalCode E b ⟨xQ st.fr s (yJ (.bool false)),st.hp,st.n⟩ K)
   |_=>none
  | .const (.bool t)=>aB t (evalCode E a st K) (evalCode E b st K)
  |_=>none
 | .block id c,st,K=>evalCode E c st fun ex eI=>match ex with
  | .normal=>K .normal eI
  | .exit i=>bif bLX i id then K .normal eI else K (.exit i) eI
  | .ret=>K .ret eI
 | .exit id,st,K=>K (.exit id) st
 | .ret,st,K=>K .ret st
 | .loop c,st,K=>match E.roll (keyOf c)with
  |some n=>iter (fun rec l=>evalCode E c (mk E.n0 (E.keep (keyOf c)) l) fun ex eI=>match ex with
    | .normal=>rec (canon E.n0 (E.keep (keyOf c)) eI)
    | .exit i=>K (.exit i) eI
    | .ret=>K .ret eI) n (canon E.n0 (E.keep (keyOf c)) st)
  |none=>fix (fun rec l=>evalCode E c (mk E.n0 (E.keep (keyOf c)) l) fun ex eI=>match ex with
    | .normal=>rec (canon E.n0 (E.keep (keyOf c)) eI)
    | .exit i=>K (.exit i) eI
    | .ret=>K .ret eI) (canon E.n0 (E.keep (keyOf c)) st)
 | .scope c,st,K=>evalCode E c st K
 |_,_,_=>none
def resD(E:Env)(st:St):ResultVar->Option D
 | .tmp t=>match st.fr t with
  | .v (.agg cs)=>some (.agg cs)
  | .v (.one (.s x))=>some (.s x)
  | .v (.one (.buf i _))=>bif bMH i E.n0 then none else match st.hp i with
   |some ⟨e,.ints k ns⟩=>some (.own e k ns)
   |_=>none
  | .v (.one (.view i off n))=>bif E.io.elem i then some (.back i off n)else bif bMH i E.n0 then none else match st.hp i,off with
   |some ⟨e,.ints k ns⟩,0=>some (.own e k (ns.take n))
   |_,_=>none
  |_=>none
 | .cell t ty=>match st.fr t,E.T ty with
  | .v (.one (.ptr i off)),some ti=>match st.hp i with
   |some ⟨_,.cells cs⟩=>match partOf ti cs off with
    |some (.agg Ho)=>some (.agg Ho)
    |some (.one (.s x))=>some (.s x)
    |_=>none
   |_=>none
  |_,_=>none
def ownIds(st:St):List ResultVar->List Nat
 | []=>[]
 | .tmp t :: r=>(match st.fr t with | .v (.one (.buf i _))=>[i] | .v (.one (.view i _ _))=>[i] |_=>[]) ++ ownIds st r
 | .cell _ _ :: r=>ownIds st r
def aSM(st:St)(i:Nat):Option D:=match st.hp i with
 |some ⟨e,.ints k ns⟩=>some (.io e k ns 0 0)
 |_=>none
def oM(E:Env)(fn:Func)(ex:Ex)(st:St):Option (List D) :=
 match ex with
 | .exit _=>none
 |_=>bif nodup (ownIds st fn.results.toList)then(match E.io with
  | []=>fn.results.toList.mapM (resD E st)
  |p :: ps=>match fn.results.toList.mapM (resD E st),(p :: ps).mapM (aSM st)with
   |some rs,some is=>some (rs ++ is)
   |_,_=>none)else none
def bCA:D->A
 | .s x=>.v (.one (.s x))
 | .rows sz n f=>.v (.one (.rows sz n f))
 | .agg cs=>.v (.agg cs)
 | .own _ k ns=>.v (.one (.s (.ints k ns)))
 | .io _ _ _ _ _=>.any
 | .back _ _ _=>.any
def argAt(i:Nat):D->A
 | .io _ _ _ off n=>.v (.one (.view i off n))
 |d=>bCA d
def argFrI:Nat->List D->Nat->A
 |_,[],_=>.any
 |i,d :: _,0=>argAt i d
 |i,_ :: r,n+1=>argFrI (i+1) r n
abbrev Rh:List D->Nat->A:=argFrI 0
def argHp:Nat->List D->Nat->Option iM
 |_,[],_=>none
 |i,.io e k ns _ _ :: r,j=>bif bLX j i then some ⟨e,.ints k ns⟩else argHp (i+1) r j
 |i,_ :: r,j=>argHp (i+1) r j
def aF(E:Env)(fn:Func)(c:Code)(ds:List D):Option (List D) :=
 evalCode E c ⟨Rh ds,argHp 0 ds,E.n0⟩ (oM E fn)
def Sv{R:Type}(E:Env)(b:Code)(K:Ex->St->Option R)(ex:Ex)(eI:St):Option R:=match ex with
 | .normal=>match E.cut (keyOf b)with
  |some keep=>yC (keyOf b) (canon E.n0 keep eI) fun l=>evalCode E b (mk E.n0 keep l) K
  |none=>evalCode E b eI K
 | .exit i=>K (.exit i) eI
 | .ret=>K .ret eI
def Hr{R:Type}(id:Nat)(K:Ex->St->Option R)(ex:Ex)(eI:St):Option R:=match ex with
 | .normal=>K .normal eI
 | .exit i=>bif bLX i id then K .normal eI else K (.exit i) eI
 | .ret=>K .ret eI
def Km{R:Type}(E:Env)(c:Code)(K:Ex->St->Option R)(ex:Ex)(eI:St):Option R:=match ex with
 | .normal=>fix (fun rec l=>evalCode E c (mk E.n0 (E.keep (keyOf c)) l) fun ex eI=>match ex with
  | .normal=>rec (canon E.n0 (E.keep (keyOf c)) eI)
  | .exit i=>K (.exit i) eI
  | .ret=>K .ret eI) (canon E.n0 (E.keep (keyOf c)) eI)
 | .exit i=>K (.exit i) eI
 | .ret=>K .ret eI
def findLoop{R:Type}(E:Env)(key:Nat):Code->(Ex->St->Option R)->Option (Code×(Ex->St->Option R))
 | .seq a b,K=>(findLoop E key a (Sv E b K)).or (findLoop E key b K)
 | .cond _ a b,K=>(findLoop E key a K).or (findLoop E key b K)
 | .block id c,K=>findLoop E key c (Hr id K)
 | .loop c,K=>bif bLX (keyOf c) key then some (c,K)else findLoop E key c (Km E c K)
 | .scope c,K=>findLoop E key c K
 |_,_=>none
def dX{R:Type}(E:Env)(key:Nat):Code->(Ex->St->Option R)->Option (Code×(Ex->St->Option R))
 | .seq a b,K=>bif bLX (keyOf b) key then some (b,K)else(dX E key a (Sv E b K)).or (dX E key b K)
 | .cond _ a b,K=>(dX E key a K).or (dX E key b K)
 | .block id c,K=>dX E key c (Hr id K)
 | .loop c,K=>dX E key c (Km E c K)
 | .scope c,K=>dX E key c K
 |_,_=>none
end AI
namespace AI
open Go Go.RowKit
def mW(X:Nat->Prop)(w:World):S->Value->Prop
 | .sc u,v=>v=u/\u.oneCell'=true
 | .ints k ns,v=>∃A c,v=.slice A ns.length c/\ns.length<=c/\∀(i:Nat) (n:Int),ns[i]?=some n->∃b off,A=some ⟨b,off,none⟩/\b<w.heap.size/\¬X b/\w.cell? ⟨b,off+i,none⟩=some (.int k n)
 | .bot,v=>v.oneCell'=true
def gF(X:Nat->Prop)(w:World)(cs:List S)(vs:List Value):Prop :=
 cs.length=vs.length/\∀(i:Nat) (s:S) (u:Value),cs[i]?=some s->vs[i]?=some u->mW X w s u
def rJ(X:Nat->Prop)(w:World)(b off:Nat)(cs:List S):Prop :=
 ∀(i:Nat) (s:S),cs[i]?=some s->b<w.heap.size/\¬X b/\∃u,w.cell? ⟨b,off+i,none⟩=some u/\mW X w s u
def jQ(w:World)(g:Nat):Nat:=match w.heap[g]? with
 |some (.cells arr _ _)=>arr.size
 |_=>0
def tR(k:IntKind)(ns:List Int):List S:=ns.map fun n=>.sc (.int k n)
def aAB(ρ:Nat->Nat)(hp:Nat->Option iM)(X:Nat->Prop)(w:World):L->Value->Prop
 | .s x,v=>mW X w x v
 | .rows sz n f,v=>∃A c,v=.slice A n c/\n<=c/\∀i,i<n->(f i).length=sz/\∃b off,A=some ⟨b,off,none⟩/\rJ X w b (off+i*sz) (f i)
 | .Jq cs,v=>∃b off,v=.pointer (some ⟨b,off,none⟩)/\rJ X w b off cs
 | .Ns k ns,v=>∃b off,v=.pointer (some ⟨b,off,none⟩)/\rJ X w b off (tR k ns)
 | .ptr id off,v=>v=.pointer (some ⟨ρ id,off,none⟩)
 | .Mn id i,v=>v=.pointer (some ⟨ρ id,i,none⟩)/\∀blk k ns,hp id=some blk->blk.cont=.ints k ns->i<ns.length
 | .buf id n,v=>∃cap,v=.slice (some ⟨ρ id,0,none⟩) n cap/\n<=cap/\(∀blk k ns,hp id=some blk->blk.cont=.ints k ns->n=ns.length/\cap<=maxLen/\cap<=jQ w (ρ id))/\∀blk cs,hp id=some blk->blk.cont=.cells cs->∃sz,cs.length=n*sz/\cap*sz<=jQ w (ρ id)/\cap<=maxLen
 | .view id off n,v=>∃o' cap,v=.slice (some ⟨ρ id,o',none⟩) n cap/\n<=cap/\(0<n->o'=off)/\(off=0->o'=0)/\∀blk k ns,hp id=some blk->blk.cont=.ints k ns->off+n<=ns.length/\cap<=maxLen/\cap<=jQ w (ρ id)
theorem tJ{ρ:Nat->Nat}{hp:Nat->Option iM}{w:World}{id off n:Nat}{v:Value}(h:aAB ρ hp (fun _=>False) w (.view id off n) v) :
  ∃A cap,v=.slice A n cap/\n<=cap/\(0<n->A=some ⟨ρ id,off,none⟩)/\∀blk k ns,hp id=some blk->blk.cont=.ints k ns->off+n<=ns.length:=by
 obtain⟨o',cap,hv,hle,h1,_,h2⟩:=h;exact⟨_,cap,hv,hle,fun hn=>by rw[h1 hn],fun blk k ns h3 h4=>(h2 blk k ns h3 h4).1⟩
def Bk(ρ:Nat->Nat)(hp:Nat->Option iM)(X:Nat->Prop)(w:World):V->Value->Prop
 | .one l,v=>aAB ρ hp X w l v
 | .agg cs,v=>∃arr,v=.agg arr/\gF X w cs arr.toList
def vI(ρ:Nat->Nat)(hp:Nat->Option iM)(X:Nat->Prop)(w:World):A->Value->Prop
 | .v x,v=>Bk ρ hp X w x v
 | .It xs,v=>∃arr,v=.tuple arr/\xs.length=arr.size/\∀(i:Nat) (x:V) (u:Value),xs[i]?=some x->arr[i]?=some u->Bk ρ hp X w x u
 | .any,_=>True
def vH(X:Nat->Prop)(w:World):rI->Array Value->Prop
 | .ints k ns,arr=>ns.length<=arr.size/\∀(i:Nat) (n:Int),ns[i]?=some n->arr[i]?=some (Value.int k n)
 | .cells cs,arr=>cs.length<=arr.size/\∀(i:Nat) (s:S),cs[i]?=some s->∃u,arr[i]?=some u/\mW X w s u
def Bl(X:Nat->Prop)(w:World)(g:Nat)(b:iM):Prop:=∃arr,w.heap[g]?=some (.cells arr b.e (0,0))/\vH X w b.cont arr
def aHM(ρ:Nat->Nat)(hp:Nat->Option iM)(b:Nat):Prop:=∃id blk,hp id=some blk/\ρ id=b
def XO(X:Nat->Prop)(ρ:Nat->Nat)(hp:Nat->Option iM)(b:Nat):Prop:=X b\/aHM ρ hp b
def GlobOk(glob:Nat->Option (IntKind×List Int))(X:Nat->Prop)(w:World):Prop :=
 ∀g k ns,glob g=some (k,ns)->g<w.heap.size/\¬X g/\rJ X w g 0 (tR k ns)
structure Old where
 w:World
 M:Nat->Prop
 g:Nat->Nat
 aSA:∀b,M b->b<w.heap.size
def Old.Ee(o:Old)(b:Nat):Prop:=o.w.heap.size<=b\/o.M b
def Old.zG(o:Old)(n0 id b:Nat):Prop:=o.w.heap.size<=b\/(id<n0/\o.M b)
theorem Old.zG.Ee{o:Old}{n0 id b:Nat}(h:o.zG n0 id b):o.Ee b:=h.imp (fun h=>h) And.right
theorem Old.zG.new{o:Old}{n0 id b:Nat}(h:o.zG n0 id b)(hn:n0<=id):o.w.heap.size<=b:=h.elim (fun h=>h) fun h=>absurd h.1 (by omega)
def Old.bare(w:World):Old:=⟨w,fun _=>False,id,fun _ h=>h.elim⟩
structure Kept(o:Old)(w w':World):Prop where
 os:w'.os=w.os
 tape:w'.tape=w.tape
 output:w'.output=w.output
 size:w.heap.size<=w'.heap.size
 block:∀b,¬o.Ee b->w'.heap[b]?=w.heap[b]?
 room:∀b,o.M b->jQ w' b=jQ w b
theorem uC{w w':World}{b:Nat}(h:w'.heap[b]?=w.heap[b]?):jQ w' b=jQ w b:=by unfold jQ;rw[h]
theorem Kept.refl(o:Old)(w:World):Kept o w w:=⟨rfl,rfl,rfl,bLW _,fun _ _=>rfl,fun _ _=>rfl⟩
theorem Kept.trans{o:Old}{a b c:World}(h:Kept o a b)(k:Kept o b c):Kept o a c :=
 ⟨k.os.trans h.os,k.tape.trans h.tape,k.output.trans h.output,bMS h.size k.size,fun i hi=>(k.block i hi).trans (h.block i hi),fun i hi=>(k.room i hi).trans (h.room i hi)⟩
theorem Old.Po{o:Old}{b:Nat}(h:¬o.Ee b):b<o.w.heap.size:=by
 rcases bML b o.w.heap.size with h1 |h1
 ·exact h1
 ·exact(h (.inl h1)).elim
theorem Kept.below{w w' aRO:World}(h:Kept (Old.bare w) w' aRO):Below w.heap.size w' aRO :=
 ⟨h.os,h.tape,h.output,h.size,fun k hk=>h.block k (fun hm=>by
  rcases hm with hm |hm
  ·exact absurd (show w.heap.size<=k from hm) (by omega)
  ·exact hm)⟩
structure gV(E:Env)(X:Nat->Prop)(w0:Old)(ρ:Nat->Nat)(al:Nat->Prop)(f:Nat->A)(hp:Nat->Option iM)(a:Act)(w:World):Prop where
 fr:∀t,vI ρ hp (XO X ρ hp) w (f t) (a.tmps.getD t undef)
 sz:a.tmps.size=E.nt
 nod:a.defers=[]
 blk:∀id b,hp id=some b->w0.zG E.n0 id (ρ id)/\Bl (XO X ρ hp) w (ρ id) b
 inj:∀id Sb b b',hp id=some b->hp Sb=some b'->ρ id=ρ Sb->id=Sb
 alh:∀id b,hp id=some b->al id
 alr:∀t id,id∈refs (f t)->al id
 below:Kept w0 w0.w w
 x0:∀b,X b->¬w0.Ee b
 glob:GlobOk E.glob X w0.w
 mg:∀g p,E.glob g=some p->¬w0.M g
 al0:∀id,id<E.n0->al id
 qJ:∀id,id<E.n0->ρ id=w0.g id
structure fV(X:Nat->Prop)(w:World)(X':Nat->Prop)(w':World):Prop where
 size:w.heap.size<=w'.heap.size
 keep:∀b,b<w.heap.size->¬X b->w'.heap[b]?=w.heap[b]?/\¬X' b
theorem fV.refl(X:Nat->Prop)(w:World):fV X w X w:=⟨bLW _,fun _ _ h=>⟨rfl,h⟩⟩
theorem fV.trans{X X' bFO:Nat->Prop}{w w' aRO:World}(h:fV X w X' w')(h':fV X' w' bFO aRO):fV X w bFO aRO :=
 ⟨bMS h.size h'.size,fun b hb hx=>by
  obtain⟨e,vZ⟩:=h.keep b hb hx;obtain⟨e',aYO⟩:=h'.keep b (bMW hb h.size) vZ;exact⟨e'.trans e,aYO⟩⟩
section
variable {X X':Nat->Prop} {w w':World}
theorem fV.cell(h:fV X w X' w'){b off:Nat}(hb:b<w.heap.size)(hx:¬X b):w'.cell? ⟨b,off,none⟩=w.cell? ⟨b,off,none⟩ :=
 World.cell?_of_block (a:=⟨b,off,none⟩) (h.keep b hb hx).1
theorem mW.later(h:fV X w X' w'){s:S}{v:Value}(r:mW X w s v):mW X' w' s v:=by
 cases s with
 |sc u=>exact r
 |bot=>exact r
 |ints k ns =>
  obtain⟨A,c,hv,hle,hc⟩:=r;refine⟨A,c,hv,hle,fun i n hn=>?_⟩;obtain⟨b,off,hA,hb,hx,aDY⟩:=hc i n hn;exact⟨b,off,hA,bMW hb h.size,(h.keep b hb hx).2,(h.cell hb hx).trans aDY⟩
theorem mW.one{s:S}{v:Value}(r:mW X w s v):v.oneCell'=true:=by
 cases s with
 |sc u=>obtain⟨rfl,h⟩:=r;exact h
 |bot=>exact r
 |ints k ns=>obtain⟨A,c,rfl,_⟩:=r;rfl
theorem gF.later(h:fV X w X' w'){cs:List S}{vs:List Value}(r:gF X w cs vs):gF X' w' cs vs :=
 ⟨r.1,fun i s u hs hu=>(r.2 i s u hs hu).later h⟩
theorem rJ.later(h:fV X w X' w'){b off:Nat}{cs:List S}(r:rJ X w b off cs):rJ X' w' b off cs:=by
 intro i s hs;obtain⟨hb,hx,u,hu,hr⟩:=r i s hs;exact⟨bMW hb h.size,(h.keep b hb hx).2,u,(h.cell hb hx).trans hu,hr.later h⟩
theorem vH.later(h:fV X w X' w'){c:rI}{arr:Array Value}(r:vH X w c arr):vH X' w' c arr:=by
 cases c with
 |ints k ns=>exact r
 |cells cs=>exact⟨r.1,fun i s hs=>let ⟨u,hu,hr⟩:=r.2 i s hs;⟨u,hu,hr.later h⟩⟩
end
def sameShape(b b':iM):Prop:=(∀k ns,b'.cont=.ints k ns->∃k' lB,b.cont=.ints k' lB/\lB.length=ns.length)/\∀cs,b'.cont=.cells cs->∃Ho,b.cont=.cells Ho/\Ho.length=cs.length
theorem sameShape.refl(b:iM):sameShape b b:=⟨fun k ns e=>⟨k,ns,e,rfl⟩,fun cs e=>⟨cs,e,rfl⟩⟩
section
variable {ρ ρ':Nat->Nat} {hp hp':Nat->Option iM} {X X':Nat->Prop} {w w':World} {al:Nat->Prop}
def sZ(ρ ρ':Nat->Nat)(hp hp':Nat->Option iM)(w w':World)(al:Nat->Prop):Prop :=
 ∀id,al id->ρ' id=ρ id/\∀b',hp' id=some b'->∃b,hp id=some b/\sameShape b b'/\jQ w' (ρ id)=jQ w (ρ id)
theorem sZ.refl(ρ:Nat->Nat)(hp:Nat->Option iM)(w:World)(al:Nat->Prop):sZ ρ ρ hp hp w w al :=
 fun _ _=>⟨rfl,fun b h=>⟨b,h,sameShape.refl _,rfl⟩⟩
theorem aAB.later(h:fV X w X' w')(hh:sZ ρ ρ' hp hp' w w' al){l:L}{v:Value}(pK:∀id∈refsL l,al id)(r:aAB ρ hp X w l v):aAB ρ' hp' X' w' l v:=by
 cases l with
 |s x=>exact mW.later h r
 |rows sz n f =>
  obtain⟨A,c,hv,hle,hc⟩:=r;refine⟨A,c,hv,hle,fun i hi=>?_⟩;obtain⟨hl,b,off,hA,Qk⟩:=hc i hi;exact⟨hl,b,off,hA,Qk.later h⟩
 |Jq cs=>obtain⟨b,off,hv,hc⟩:=r;exact⟨b,off,hv,hc.later h⟩
 |Ns k ns=>obtain⟨b,off,hv,hc⟩:=r;exact⟨b,off,hv,hc.later h⟩
 |ptr id off =>
  have hr:v=.pointer (some ⟨ρ id,off,none⟩):=r;show v=.pointer (some ⟨ρ' id,off,none⟩);rw[(hh id (pK id (by simp[refsL]))).1];exact hr
 |Mn id i =>
  obtain⟨hv,hc⟩:=r;obtain⟨e,hb⟩:=hh id (pK id (by simp[refsL]));refine⟨by rw[e];exact hv,fun b' k ns h1 h2=>?_⟩;obtain⟨b,h3,h4,_⟩:=hb b' h1;obtain⟨k',lB,h5,h6⟩:=h4.1 k ns h2;have:=hc b k' lB h3 h5;omega
 |buf id n =>
  obtain⟨cap,hv,hle,hc,aLY⟩:=r;obtain⟨e,hb⟩:=hh id (pK id (by simp[refsL]));refine⟨cap,by rw[e];exact hv,hle,fun b' k ns h1 h2=>?_,fun b' cs h1 h2=>?_⟩
  ·obtain⟨b,h3,h4,h7⟩:=hb b' h1;obtain⟨k',lB,h5,h6⟩:=h4.1 k ns h2;have:=hc b k' lB h3 h5;rw[e,h7];exact⟨by omega,this.2⟩
  ·obtain⟨b,h3,h4,h7⟩:=hb b' h1;obtain⟨Ho,h5,h6⟩:=h4.2 cs h2;obtain⟨sz,h8,h9⟩:=aLY b Ho h3 h5;rw[e,h7];exact⟨sz,by omega,h9⟩
 |view id off n =>
  obtain⟨o',cap,hv,hle,aDO,zW,hc⟩:=r;obtain⟨e,hb⟩:=hh id (pK id (by simp[refsL]));refine⟨o',cap,by rw[e];exact hv,hle,aDO,zW,fun b' k ns h1 h2=>?_⟩;obtain⟨b,h3,h4,h7⟩:=hb b' h1;obtain⟨k',lB,h5,h6⟩:=h4.1 k ns h2;have:=hc b k' lB h3 h5;rw[e,h7];exact⟨by omega,this.2⟩
theorem Bk.later(h:fV X w X' w')(hh:sZ ρ ρ' hp hp' w w' al){x:V}{v:Value}(pK:∀id∈refsV x,al id)(r:Bk ρ hp X w x v):Bk ρ' hp' X' w' x v:=by
 cases x with
 |one l=>exact aAB.later h hh pK r
 |agg cs=>obtain⟨arr,hv,hr⟩:=r;exact⟨arr,hv,hr.later h⟩
theorem vI.later(h:fV X w X' w')(hh:sZ ρ ρ' hp hp' w w' al){x:A}{v:Value}(pK:∀id∈refs x,al id)(r:vI ρ hp X w x v):vI ρ' hp' X' w' x v:=by
 cases x with
 |v x=>exact Bk.later h hh pK r
 |any=>trivial
 |It xs =>
  obtain⟨arr,hv,hl,hr⟩:=r;refine⟨arr,hv,hl,fun i x u hx hu=>Bk.later h hh (fun id tW=>pK id ?_) (hr i x u hx hu)⟩;exact List.mem_flatMap.2 ⟨x,bMF hx,tW⟩
end
theorem gV.next{E:Env}{X:Nat->Prop}{w0:Old}{ρ ρ':Nat->Nat}{al al':Nat->Prop}{fr:Nat->A}{hp hp':Nat->Option iM}{a:Act}{w w':World}{o:Oper}{x:A}{v:Value}
  (h:gV E X w0 ρ al fr hp a w) (hd:gY E.nt o=true)
  (hl:fV (XO X ρ hp) w (XO X ρ' hp') w') (hb:Kept w0 w w')
  (hh:sZ ρ ρ' hp hp' w w' al)
  (Ei:∀id b,hp' id=some b->w0.zG E.n0 id (ρ' id)/\Bl (XO X ρ' hp') w' (ρ' id) b)
  (wU:∀id Sb b b',hp' id=some b->hp' Sb=some b'->ρ' id=ρ' Sb->id=Sb)
  (pK:∀id,al id->al' id) (aOU:∀id b,hp' id=some b->al' id)
  (hx:vI ρ' hp' (XO X ρ' hp') w' x v) (aSS:∀id∈refs x,al' id) :
  gV E X w0 ρ' al' (zE o x fr) hp' (a.put o.dst v) w':=by
 have key:∀t,vI ρ' hp' (XO X ρ' hp') w' (zE o x fr t) ((a.put o.dst v).tmps.getD t undef)/\∀id∈refs (zE o x fr t),al' id:=by
  intro t;unfold zE Act.put;cases Zd:o.dst with
  |none=>exact⟨vI.later hl hh (h.alr t) (h.fr t),fun id tW=>pK id (h.alr t id tW)⟩
  |some d =>
   have iN:d<a.tmps.size:=by rw[h.sz];unfold gY at hd;rw[Zd]at hd;simpa using hd
   simp only[xQ];cases bES:bLX t d with
   |true =>
    obtain rfl:t=d:=bMK bES;simp only[cond_true];refine⟨?_,aSS⟩;have e:(a.tmps.setIfInBounds t v).getD t undef=v:=by simp[Array.getD,iN]
    rw[e];exact hx
   |false =>
    have Dp:t≠d:=bOA bES;simp only[cond_false];have e:(a.tmps.setIfInBounds d v).getD t undef=a.tmps.getD t undef:=by
     simp only[Array.getD_eq_getD_getElem?,Array.getElem?_setIfInBounds];rw[if_neg (fun h=>Dp h.symm)]
    rw[e];exact⟨vI.later hl hh (h.alr t) (h.fr t),fun id tW=>pK id (h.alr t id tW)⟩
 exact { fr:=fun t=>(key t).1,sz:=by unfold Act.put;cases o.dst <;> simp[h.sz],nod:=by unfold Act.put;cases o.dst <;> exact h.nod,blk:=Ei,inj:=wU,alh:=aOU,alr:=fun t=>(key t).2,below:=h.below.trans hb,x0:=h.x0,glob:=h.glob,mg:=h.mg,al0:=fun id hi=>pK id (h.al0 id hi),qJ:=fun id hi=>(hh id (h.al0 id hi)).1.trans (h.qJ id hi) }
theorem gV.pure{E:Env}{X:Nat->Prop}{w0:Old}{ρ:Nat->Nat}{al:Nat->Prop}{fr:Nat->A}{hp:Nat->Option iM}{a:Act}{w:World}{o:Oper}{x:A}{v:Value}
  (h:gV E X w0 ρ al fr hp a w) (hd:gY E.nt o=true) (hx:vI ρ hp (XO X ρ hp) w x v) (aSS:∀id∈refs x,al id) :
  gV E X w0 ρ al (zE o x fr) hp (a.put o.dst v) w :=
 h.next hd (fV.refl _ _) (Kept.refl _ _) (sZ.refl _ _ _ _) h.blk h.inj (fun _ h=>h) h.alh hx aSS
theorem gV.My{E:Env}{X:Nat->Prop}{w0:Old}{ρ:Nat->Nat}{al:Nat->Prop}{fr:Nat->A}{hp:Nat->Option iM}{a:Act}{w:World}
  (h:gV E X w0 ρ al fr hp a w):GlobOk E.glob (XO X ρ hp) w:=by
 intro g k ns hg;obtain⟨h1,h2,h3⟩:=h.glob g k ns hg;have hm:¬w0.Ee g:=by
  rintro (hm |hm)
  ·omega
  ·exact h.mg g _ hg hm
 have hx:¬XO X ρ hp g:=by
  rintro (ho |⟨id,b',e1,e2⟩)
  ·exact h2 ho
  ·exact hm (e2▸(h.blk id b' e1).1.Ee)
 refine⟨bMW h1 h.below.size,hx,fun i s hs=>?_⟩;obtain⟨_,_,u,hu,hr⟩:=h3 i s hs;refine⟨bMW h1 h.below.size,hx,u,(World.cell?_of_block (a:=⟨g,0+i,none⟩) (h.below.block g hm)).trans hu,?_⟩;unfold tR at hs;rw[bMA]at hs;obtain⟨m,_,rfl⟩:=Option.map_eq_some_iff.1 hs;exact hr
theorem gV.ev{E:Env}{X:Nat->Prop}{w0:Old}{ρ:Nat->Nat}{al:Nat->Prop}{fr:Nat->A}{hp:Nat->Option iM}{a:Act}{w:World}
  (h:gV E X w0 ρ al fr hp a w) (x:Operand):vI ρ hp (XO X ρ hp) w (evA E fr x) (a.eval x)/\∀id∈refs (evA E fr x),al id:=by
 cases x with
 |tmp t=>exact⟨h.fr t,h.alr t⟩
 |const v =>
  simp only[evA];split
  ·rename_i hv;exact⟨⟨rfl,hv⟩,by simp[refs,refsV,refsL]⟩
  ·exact⟨trivial,by simp[refs]⟩
 |func f=>exact⟨⟨rfl,rfl⟩,by simp[evA,refs,refsV,refsL]⟩
 |global g =>
  simp only[evA];cases hg:E.glob g with
  |none=>exact⟨trivial,by simp[refs]⟩
  |some p =>
   obtain⟨k,ns⟩:=p;refine⟨⟨g,0,rfl,?_⟩,by simp[refs,refsV,refsL]⟩;exact(h.My g k ns hg).2.2
end AI
namespace AI
open Go Go.RowKit
theorem Cw{R:Type}(op:BinOp)(x y:Value)(K:Value->Option R):binK op x y K=(binK op x y some).bind K:=by
 unfold binK;split
 ·split <;> (repeat' split) <;> first |rfl | (simp;done)
 ·split <;> (repeat' split) <;> first |rfl | (generalize Ieee.Format.add _ _ _=m;cases m <;> rfl) | (generalize Ieee.Format.sub _ _ _=m;cases m <;> rfl) | (generalize Ieee.Format.mul _ _ _=m;cases m <;> rfl) | (generalize Ieee.Format.div _ _ _=m;cases m <;> rfl)
 ·split <;> rfl
 ·rfl
theorem Fp{R:Type}(op:UnOp)(x:Value)(K:Value->Option R):unK op x K=(unK op x some).bind K:=by
 unfold unK;split <;> simp
theorem zJ{R:Type}(k:TK)(x:Value)(K:Value->Option R):convK k x K=(convK k x some).bind K:=by
 unfold convK;split
 ·simp
 ·simp
 ·rename_i s b;cases ((FloatKind.decode s b).toInt .zero)with
  |none=>rfl
  |some n=>simp only[bNN];split <;> simp
 ·split <;> simp
 ·rfl
theorem fdiv_pow(a:Int)(n:Nat):a.fdiv (2^n)=a/((2^n:Nat):Int):=by
 rw[Int.fdiv_eq_ediv_of_nonneg _ (by exact Int.le_of_lt (Int.pow_pos (by omega)))];simp
theorem Qr{P:Program}(op:BinOp)(t:TypeId)(x y:Operand)(k k':IntKind)(a b:Int)(w:World):(eqGuard op t x y (.int k a) (.int k' b)).run P w=.ok () w:=by
 unfold eqGuard;split <;> rfl
theorem Jm{P:Program}(op:BinOp)(t:TypeId)(x y:Operand)(k k':FloatKind)(a b:Nat)(w:World):(eqGuard op t x y (.float k a) (.float k' b)).run P w=.ok () w:=by
 unfold eqGuard;split <;> rfl
theorem Nd{P:Program}(op:BinOp)(t:TypeId)(x y:Operand)(a b:Bool)(w:World):(eqGuard op t x y (.bool a) (.bool b)).run P w=.ok () w:=by
 unfold eqGuard;split <;> rfl
theorem aKC{P:Program}(op:BinOp)(t:TypeId)(k k':IntKind)(a b:Int)(r:Value)(w:World)(h:binK op (.int k a) (.int k' b) some=some r) :
  (binOp op t (.int k a) (.int k' b)).run P w=.ok r w/\r.oneCell'=true:=by
 cases op <;> simp only[binK]at h
 case shl =>
  split at h <;> cases h;rename_i hb;simp[binOp,Op.shift,hb,Value.oneCell']
 case shr =>
  split at h <;> cases h;rename_i hb;simp[binOp,Op.shift,fdiv_pow,hb,Value.oneCell']
 case quo =>
  split at h <;> try (cases h;done)
  split at h <;> cases h;rename_i hk hb;simp[binOp,Op.intDiv,hk,hb,Value.oneCell']
 case rem =>
  split at h <;> try (cases h;done)
  split at h <;> cases h;rename_i hk hb;simp[binOp,Op.intDiv,hk,hb,Value.oneCell']
 all_goals
  split at h <;> cases h;rename_i hk;subst hk;simp[binOp,Op.intArith,Op.intCmp,Op.intBits,sH,bitsI0,Value.oneCell']
theorem Zz{P:Program}(op:BinOp)(t:TypeId)(k k':FloatKind)(a b:Nat)(r:Value)(w:World)(h:binK op (.float k a) (.float k' b) some=some r) :
  (binOp op t (.float k a) (.float k' b)).run P w=.ok r w/\r.oneCell'=true:=by
 cases op <;> simp only[binK]at h
 case add =>
  split at h <;> try (cases h;done)
  rename_i hk;subst hk;obtain⟨m,hm,hr⟩:=Option.bind_eq_some_iff.1 h;cases hr;simp[binOp,Op.floatArith,hm,Value.oneCell']
 case sub =>
  split at h <;> try (cases h;done)
  rename_i hk;subst hk;obtain⟨m,hm,hr⟩:=Option.bind_eq_some_iff.1 h;cases hr;simp[binOp,Op.floatArith,hm,Value.oneCell']
 case mul =>
  split at h <;> try (cases h;done)
  rename_i hk;subst hk;obtain⟨m,hm,hr⟩:=Option.bind_eq_some_iff.1 h;cases hr;simp[binOp,Op.floatArith,hm,Value.oneCell']
 case quo =>
  split at h <;> try (cases h;done)
  rename_i hk;subst hk;obtain⟨m,hm,hr⟩:=Option.bind_eq_some_iff.1 h;cases hr;simp[binOp,Op.floatArith,hm,Value.oneCell']
 all_goals (try (cases h;done))
 all_goals
  split at h <;> cases h;rename_i hk;subst hk;simp[binOp,Op.floatCmp,Value.oneCell']
theorem Zy{P:Program}(op:BinOp)(t:TypeId)(x y:Operand)(a b r:Value)(w:World)(hb:∀q,a=.bool q->P.underlying t=some .bool)(h:binK op a b some=some r) :
  (do eqGuard op t x y a b;binOp op t a b:Sem Value).run P w=.ok r w/\r.oneCell'=true:=by
 cases a with
 |int k a =>
  cases b with
  |int k' b=>rw[Sem.run_bind,Qr];exact aKC op t k k' a b r w h
  |_=>simp[binK]at h
 |float k a =>
  cases b with
  |float k' b=>rw[Sem.run_bind,Jm];exact Zz op t k k' a b r w h
  |_=>simp[binK]at h
 |bool a =>
  cases b with
  |bool b =>
   rw[Sem.run_bind,Nd];have ht:=hb a rfl;cases op <;> simp only[binK]at h <;> cases h
   ·exact⟨run_eql_bool w t a b ht,rfl⟩
   ·refine⟨?_,rfl⟩;rw[Result.andThen_ok];simp only[binOp];rw[Sem.run_bind,run_equal_bool w t a b ht];rfl
  |_=>simp[binK]at h
 |_=>simp[binK]at h
theorem aBA{P:Program}(op:UnOp)(a r:Value)(w:World)(h:unK op a some=some r) :
  (Op.unary op a).run P w=.ok r w/\r.oneCell'=true:=by
 unfold unK at h;split at h <;> cases h <;> simp[Op.unary,Op.intArith,Op.intBits,sH,bitsI0,Value.oneCell']
end AI
namespace AI
open Go Go.RowKit
section
variable {E:Env} {X:Nat->Prop} {w0:Old} {ρ ρ':Nat->Nat} {al al':Nat->Prop} {fr:Nat->A} {hp hp':Nat->Option iM} {a:Act} {w w':World}
theorem gV.change(h:gV E X w0 ρ al fr hp a w)
  (hl:fV (XO X ρ hp) w (XO X ρ' hp') w') (hb:Kept w0 w w')
  (hh:sZ ρ ρ' hp hp' w w' al)
  (Ei:∀id b,hp' id=some b->w0.zG E.n0 id (ρ' id)/\Bl (XO X ρ' hp') w' (ρ' id) b)
  (wU:∀id Sb b b',hp' id=some b->hp' Sb=some b'->ρ' id=ρ' Sb->id=Sb)
  (pK:∀id,al id->al' id) (aOU:∀id b,hp' id=some b->al' id):gV E X w0 ρ' al' fr hp' a w' :=
 { fr:=fun t=>vI.later hl hh (h.alr t) (h.fr t),sz:=h.sz,nod:=h.nod,blk:=Ei,inj:=wU,alh:=aOU,alr:=fun t id tW=>pK id (h.alr t id tW),below:=h.below.trans hb,x0:=h.x0,glob:=h.glob,mg:=h.mg,al0:=fun id hi=>pK id (h.al0 id hi),qJ:=fun id hi=>(hh id (h.al0 id hi)).1.trans (h.qJ id hi) }
def Cons(u:nZ):Prop:=∀p∈u,p.2=none
theorem jB(u v:nZ)(hp:Nat->Option iM):applyUps (u ++ v) hp=applyUps v (applyUps u hp):=by
 induction u generalizing hp with
 |nil=>rfl
 |cons p u ih=>obtain⟨i,b⟩:=p;simp only[bNO,applyUps];exact ih _
theorem bG{α:Type}(f:Nat->α)(d:Nat)(x:α):xQ f d x d=x:=by simp[xQ]
theorem eG{α:Type}(f:Nat->α){d i:Nat}(x:α)(h:i≠d):xQ f d x i=f i:=by
 have:bLX i d=false:=by cases hb:bLX i d with
  |false=>rfl
  |true=>exact absurd (bMK hb) h
 simp[xQ,this]
theorem fK{u:nZ}(hu:Cons u){hp:Nat->Option iM}{i:Nat}{b:iM}(h:applyUps u hp i=some b):hp i=some b:=by
 induction u generalizing hp with
 |nil=>exact h
 |cons p u ih =>
  obtain⟨j,c⟩:=p;have hc:c=none:=hu (j,c) (by simp);subst hc;have:=ih (fun p hp=>hu p (by simp[hp])) h
  by_cases aQQ:i=j
  ·subst aQQ;rw[bG]at this;cases this
  ·rwa [eG _ _ aQQ]at this
theorem Jw{u:nZ}(hu:Cons u){hp:Nat->Option iM}{i:Nat}(h:(i,none)∈u):applyUps u hp i=none:=by
 induction u generalizing hp with
 |nil=>cases h
 |cons p u ih =>
  obtain⟨j,c⟩:=p;have hc:c=none:=hu (j,c) (by simp);subst hc;have Mq:Cons u:=fun p hp=>hu p (by simp[hp])
  rcases List.mem_cons.1 h with h |h
  ·cases h;cases hq:applyUps ((i,none) :: u) hp i with
   |none=>rfl
   |some b=>have:=fK Mq (hp:=xQ hp i none) hq;rw[bG]at this;cases this
  ·exact ih Mq h
theorem aHM.of_cons{u:nZ}(hu:Cons u){b:Nat}(h:aHM ρ (applyUps u hp) b):aHM ρ hp b:=by
 obtain⟨id,bl,h1,h2⟩:=h;exact⟨id,bl,fK hu h1,h2⟩
theorem fV.cons{u:nZ}(hu:Cons u):fV (XO X ρ hp) w (XO X ρ (applyUps u hp)) w :=
 ⟨bLW _,fun _ _ hx=>⟨rfl,fun h=>hx (h.imp id (aHM.of_cons hu))⟩⟩
theorem Bl.later{X X':Nat->Prop}{g:Nat}{b:iM}(h:fV X w X' w')(hg:w'.heap[g]?=w.heap[g]?)(r:Bl X w g b):Bl X' w' g b:=by
 obtain⟨arr,h1,h2⟩:=r;exact⟨arr,hg.trans h1,h2.later h⟩
theorem gV.cons(h:gV E X w0 ρ al fr hp a w){u:nZ}(hu:Cons u):gV E X w0 ρ al fr (applyUps u hp) a w :=
 h.change (fV.cons hu) (Kept.refl _ _)
  (fun _ _=>⟨rfl,fun b' vQ=>⟨b',fK hu vQ,sameShape.refl _,rfl⟩⟩)
  (fun id b hb=>⟨(h.blk id b (fK hu hb)).1,(h.blk id b (fK hu hb)).2.later (fV.cons hu) rfl⟩)
  (fun id Sb b b' h1 h2 e=>h.inj id Sb b b' (fK hu h1) (fK hu h2) e)
  (fun _ h=>h) (fun id b hb=>h.alh id b (fK hu hb))
theorem Bl.lt{X:Nat->Prop}{g:Nat}{b:iM}(r:Bl X w g b):g<w.heap.size:=by
 obtain⟨arr,h1,_⟩:=r;exact(Array.getElem?_eq_some_iff.1 h1).1
theorem tZ(w:World)(o:Obj):(w.alloc o).heap[w.heap.size]?=some o:=heap_alloc_new w o
theorem tY(w:World)(o:Obj){k:Nat}(h:k<w.heap.size):(w.alloc o).heap[k]?=w.heap[k]?:=Below.heap_alloc w o k h
theorem gV.gX(h:gV E X w0 ρ al fr hp a w){id:Nat}{b:iM}(hb:hp id=some b):ρ id<w.heap.size:=(h.blk id b hb).2.lt
theorem Kept.alloc{o:Old}{w:World}(h:o.w.heap.size<=w.heap.size)(x:Obj):Kept o w (w.alloc x) :=
 ⟨rfl,rfl,rfl,by simp,fun _ hb=>tY w x (by have:=Old.Po hb;omega),fun b hb=>uC (tY w x (by have:=o.aSA b hb;omega))⟩
theorem gV.alloc(h:gV E X w0 ρ al fr hp a w){id:Nat}(tW:¬al id)(pK:∀i,al i->al' i)(qA:al' id)(e:TypeId)(c:rI)(arr:Array Value)(hc:vH (XO X ρ hp) w c arr) :
  gV E X w0 (xQ ρ id w.heap.size) al' fr (xQ hp id (some ⟨e,c⟩)) a (w.alloc (.cells arr e)):=by
 have Dp:∀i,al i->i≠id:=fun i hi e=>tW (e▸hi)
 have hl:fV (XO X ρ hp) w (XO X (xQ ρ id w.heap.size) (xQ hp id (some ⟨e,c⟩))) (w.alloc (.cells arr e)):=by
  refine⟨by simp,fun b hb hx=>⟨tY w _ hb,fun ho=>?_⟩⟩;rcases ho with ho |⟨i,bl,h1,h2⟩
  ·exact hx (.inl ho)
  ·by_cases hi:i=id
   ·subst hi;rw[bG]at h2;omega
   ·rw[eG _ _ hi]at h1 h2;exact hx (.inr ⟨i,bl,h1,h2⟩)
 refine h.change hl (Kept.alloc h.below.size _) ?_ ?_ ?_ pK ?_
 ·intro i hi;refine⟨eG _ _ (Dp i hi),fun b' vQ=>?_⟩;rw[eG _ _ (Dp i hi)]at vQ;refine⟨b',vQ,sameShape.refl _,?_⟩;unfold jQ;rw[tY w _ (h.gX vQ)]
 ·intro i b hb
  by_cases hi:i=id
  ·subst hi;rw[bG]at hb;cases hb;refine⟨by rw[bG];exact .inl h.below.size,arr,by rw[bG];exact tZ w _,hc.later hl⟩
  ·rw[eG _ _ hi]at hb;rw[eG _ _ hi];exact⟨(h.blk i b hb).1,(h.blk i b hb).2.later hl (tY w _ (h.gX hb))⟩
 ·intro i i' b b' h1 h2 e
  by_cases hi:i=id
  ·by_cases aAQ:i'=id
   ·rw[hi,aAQ]
   ·subst hi;rw[eG _ _ aAQ]at h2;rw[bG,eG _ _ aAQ]at e;have:=h.gX h2;omega
  ·by_cases aAQ:i'=id
   ·subst aAQ;rw[eG _ _ hi]at h1;rw[bG,eG _ _ hi]at e;have:=h.gX h1;omega
   ·rw[eG _ _ hi]at h1 e;rw[eG _ _ aAQ]at h2 e;exact h.inj i i' b b' h1 h2 e
 ·intro i b hb
  by_cases hi:i=id
  ·subst hi;exact qA
  ·rw[eG _ _ hi]at hb;exact pK i (h.alh i b hb)
theorem gV.setRow(h:gV E X w0 ρ al fr hp a w){id:Nat}{b:iM}(hb:hp id=some b)(c:rI)(arr:Array Value)(hs:sameShape b ⟨b.e,c⟩)(pY:jQ w (ρ id)=arr.size)(hc:vH (XO X ρ hp) w c arr) :
  gV E X w0 ρ al fr (xQ hp id (some ⟨b.e,c⟩)) a (w.setRow (ρ id) arr):=by
 obtain⟨Hg,bBZ,hg,_⟩:=h.blk id b hb;have qA:(w.setRow (ρ id) arr).heap[ρ id]?=some (.cells arr b.e (0,0)):=setRow_heap w (ρ id) bBZ arr b.e _ hg;have hold:∀k,k≠ρ id->(w.setRow (ρ id) arr).heap[k]?=w.heap[k]?:=fun k hk=>setRow_other w (ρ id) k arr (fun e=>hk e)
 have pZ:∀b',aHM ρ (xQ hp id (some ⟨b.e,c⟩)) b'->aHM ρ hp b':=by
  rintro b' ⟨i,bl,h1,h2⟩
  by_cases hi:i=id
  ·subst hi;exact⟨i,b,hb,h2⟩
  ·rw[eG _ _ hi]at h1;exact⟨i,bl,h1,h2⟩
 have hl:fV (XO X ρ hp) w (XO X ρ (xQ hp id (some ⟨b.e,c⟩))) (w.setRow (ρ id) arr):=by
  refine⟨by simp[World.setRow],fun b' vQ hx=>⟨hold b' (fun e=>hx (.inr ⟨id,b,hb,e.symm⟩)),fun ho=>hx (ho.imp (fun h=>h) (pZ b'))⟩⟩
 have wU:∀i b',hp i=some b'->i≠id->ρ i≠ρ id:=fun i b' hi Dp e=>Dp (h.inj i id b' b hi hb e)
 refine h.change hl ⟨rfl,rfl,rfl,by simp[World.setRow],fun k hk=>hold k (fun e=>hk (e▸Hg.Ee)),fun k _=>by
  by_cases hk:k=ρ id
  ·rw[hk,pY];unfold jQ;rw[qA]
  ·exact uC (hold k hk)⟩ ?_ ?_ ?_ (fun _ h=>h) ?_
 ·intro i _;refine⟨rfl,fun b' vQ=>?_⟩
  by_cases hi:i=id
  ·subst hi;rw[bG]at vQ;cases vQ;refine⟨b,hb,hs,?_⟩;rw[pY];unfold jQ;rw[qA]
  ·rw[eG _ _ hi]at vQ;refine⟨b',vQ,sameShape.refl _,?_⟩;unfold jQ;rw[hold _ (wU i b' vQ hi)]
 ·intro i b' vQ
  by_cases hi:i=id
  ·subst hi;rw[bG]at vQ;cases vQ;exact⟨Hg,arr,qA,hc.later hl⟩
  ·rw[eG _ _ hi]at vQ;exact⟨(h.blk i b' vQ).1,(h.blk i b' vQ).2.later hl (hold _ (wU i b' vQ hi))⟩
 ·intro i i' b1 b2 h1 h2 e;have f:∀i b1,xQ hp id (some ⟨b.e,c⟩) i=some b1->∃b2,hp i=some b2:=by
   intro i b1 h1
   by_cases hi:i=id
   ·subst hi;exact⟨b,hb⟩
   ·rw[eG _ _ hi]at h1;exact⟨b1,h1⟩
  obtain⟨c1,Zg⟩:=f i b1 h1;obtain⟨c2,aRA⟩:=f i' b2 h2;exact h.inj i i' c1 c2 Zg aRA e
 ·intro i b1 h1
  by_cases hi:i=id
  ·subst hi;exact h.alh i b hb
  ·rw[eG _ _ hi]at h1;exact h.alh i b1 h1
theorem gV.Ql(h:gV E X w0 ρ al fr hp a w){id:Nat}{b:iM}(hb:hp id=some b){u:nZ}(hu:Cons u)(tW:(id,none)∈u):¬XO X ρ (applyUps u hp) (ρ id):=by
 rintro (hx |⟨i,bl,h1,h2⟩)
 ·exact h.x0 _ hx (h.blk id b hb).1.Ee
 ·have:=h.inj i id bl b (fK hu h1) hb h2;subst this;rw[Jw hu tW]at h1;cases h1
theorem gV.vC(h:gV E X w0 ρ al fr hp a w){id:Nat}{e:TypeId}{k:IntKind}{ns:List Int}(hb:hp id=some ⟨e,.ints k ns⟩){i:Nat}{n:Int}(hi:ns[i]?=some n):w.cell? ⟨ρ id,i,none⟩=some (.int k n):=by
 obtain⟨_,arr,hg,hc⟩:=h.blk id _ hb;rw[cell_of_row w (ρ id) i arr e (0,0) hg];exact hc.2 i n hi
theorem tH(h:gV E X w0 ρ al fr hp a w){x:A}{v:Value}(hr:vI ρ hp (XO X ρ hp) w x v){cs:List S}{u:nZ}(hc:cellsOf hp x=some (cs,u)) :
  Cons u/\gF (XO X ρ (applyUps u hp)) w cs v.cells.toList:=by
 unfold cellsOf at hc;split at hc
 ·cases hc;obtain⟨arr,rfl,hs⟩:=hr;exact⟨(fun p hp=>by cases hp),hs⟩
 ·cases hc;rename_i x;have hr:mW _ w x v:=hr;refine⟨(fun p hp=>by cases hp),?_⟩;have e:v.cells.toList=[v]:=by
   have:=hr.one;cases v <;> first |rfl | (simp[Value.oneCell']at this)
  rw[e];refine⟨rfl,fun i s u hs hu=>?_⟩
  match i with
  |0=>simp at hs hu;subst hs;subst hu;exact hr
  |i+1=>simp at hs
 ·split at hc <;> cases hc;rename_i id n o e k ns hb;obtain⟨cap,rfl,yK,bAP,_⟩:=hr;have hu:Cons [(id,none)]:=fun p hp=>by simp at hp;subst hp;rfl
  refine⟨hu,rfl,fun i s u hs Mq=>?_⟩
  match i with
  |0 =>
   simp[Value.cells]at hs Mq;subst hs;subst Mq;obtain⟨hn,_⟩:=bAP _ k ns hb rfl;subst hn;refine⟨_,cap,rfl,yK,fun i n hi=>⟨ρ id,0,rfl,h.gX hb,h.Ql hb hu (by simp),?_⟩⟩;rw[bLY];exact h.vC hb hi
  |i+1=>simp at hs
 ·split at hc <;> cases hc;rename_i id off n o e k ns hb;obtain⟨A0,cap,rfl,yK,hA,hlen⟩:=tJ hr;have hu:Cons [(id,none)]:=fun p hp=>by simp at hp;subst hp;rfl
  have hl:=hlen _ k ns hb rfl;refine⟨hu,rfl,fun i s u hs Mq=>?_⟩
  match i with
  |0 =>
   simp[Value.cells]at hs Mq;subst hs;subst Mq;refine⟨A0,cap,by simp;omega,by simp;omega,fun i m hi=>?_⟩;have Iz:i<n:=by
    have:=(List.getElem?_eq_some_iff.1 hi).1;simp at this;omega
   refine⟨ρ id,off,hA (by omega),h.gX hb,h.Ql hb hu (by simp),?_⟩;refine h.vC hb ?_;rw[bMB Iz,bMI]at hi;exact hi
  |i+1=>simp at hs
 ·cases hc
end
end AI
namespace AI
open Go Go.RowKit
def pW:TypeDesc->Bool
 | .struct _ | .array _ _=>true
 |_=>false
def Io(P:Program):TK->TypeDesc->Prop
 | .bool,d=>d=.bool
 | .int k,d=>d=.int k
 | .float k,d=>d=.float k
 | .other,d=>pW d=false
 | .struct fs,d=>∃fields,d=.struct fields/\fs.length=fields.size/\∀(i:Nat) (f:Field),fields[i]?=some f->∃fi fd,P.info? f.type=some fi/\P.underlying f.type=some fd/\fs[i]?=some (f.offset,fi.size,pW fd)
 | .arr len nP g,d=>∃e ei ed,d=.array len e/\P.info? e=some ei/\ei.size=nP/\P.underlying e=some ed/\pW ed=g
 | .slice e,d=>d=.slice e
 | .str,d=>d=.string
def eqChkF(P:Program):Nat->List Field->List IntKind->Bool
 |_,[],[]=>true
 |i,f :: r,k :: ks=>(f.name != "_")&&(bLX f.offset i&&((match P.underlying f.type with
  |some (.int k')=>decide (k'=k)
  |_=>false)&&eqChkF P (i+1) r ks))
 |_,_,_=>false
def aQH(P:Program)(t:TypeId)(ks:List IntKind):Prop:=∃fields,P.underlying t=some (.struct fields)/\P.stoodInHeld t=false/\eqChkF P 0 fields.toList ks=true/\P.eqGuardType P.depth t=false
structure xF(P:Program)(t:TypeId)(ti:TI):Prop where
 i:∃i,P.info? t=some i/\i.size=ti.size/\i.bytes=ti.bytes/\∃z,i.zero=some z/\z.cells.toList=ti.zero
 zl:ti.zero.length=ti.size
 zo:∀v∈ti.zero,v.oneCell'=true
 d:∃d,P.underlying t=some d/\Io P ti.kind d
 eq:∀ks,uO ti=some ks->aQH P t ks
def mG(P:Program)(T:TypeId->Option TI):Prop:=∀t ti,T t=some ti->xF P t ti
theorem Io.agg{P:Program}{k:TK}{d:TypeDesc}(h:Io P k d):pW d=k.isAgg:=by
 cases k with
 |other=>exact h
 |struct fs=>obtain⟨f,rfl,_⟩:=h;rfl
 |arr l e g=>obtain⟨_,_,_,rfl,_⟩:=h;rfl
 |_=>cases h;rfl
section
variable {P:Program} {t:TypeId} {ti:TI} {w:World}
theorem xF.Ke(h:xF P t ti):(isAgg t).run P w=.ok ti.kind.isAgg w:=by
 obtain⟨d,hd,hk⟩:=h.d;rw[<-hk.agg];unfold isAgg;rw[Sem.run_bind,run_underlying hd];cases d <;> rfl
theorem Ag{k:IntKind}(hu:P.underlying t=some (.int k)){cs:Array Value}{i:Nat}{v:Value}(hv:cs[i]?=some v):(part t cs i).run P w=.ok v w:=by
 have ha:(isAgg t).run P w=.ok false w:=by simp[isAgg,Sem.run_bind,run_underlying hu]
 unfold part;rw[Sem.run_bind,ha];simp[hv]
theorem Xl(d:Nat)(xs ys:Array Value):∀(fs:List Field) (ks:List IntKind) (i:Nat) (cs ds:List S) (q:Bool),eqChkF P i fs ks=true->eqInts ks cs ds=some q ->
  (∀(j:Nat) (c:Value),cs[j]?=some (.sc c)->xs[i+j]?=some c)->(∀(j:Nat) (c:Value),ds[j]?=some (.sc c)->ys[i+j]?=some c)->(Op.eqFields (d+1) xs ys fs).run P w=.ok q w
 | [],ks,i,cs,ds,q,h,he,hx,hy=>by
  cases ks with
  |cons=>cases h
  |nil =>
   have:q=true:=by cases cs <;> cases ds <;> simp[eqInts]at he <;> exact he
   subst this;rfl
 |f :: r,ks,i,cs,ds,q,h,he,hx,hy=>by
  cases ks with
  |nil=>cases h
  |cons k ks =>
   obtain⟨a,b,r1,r2,rfl,rfl,q',hq,rfl⟩:∃a b r1 r2,cs=.sc (.int k a) :: r1/\ds=.sc (.int k b) :: r2/\∃q',eqInts ks r1 r2=some q'/\q=((a==b)&&q'):=by
    clear hx hy
    match cs,ds,he with
    | .sc (.int k1 a) :: r1,.sc (.int k2 b) :: r2,yL =>
     simp only[eqInts]at yL;split at yL
     ·rename_i hk;obtain⟨rfl,rfl⟩:=hk;obtain⟨q',hq,rfl⟩:=Option.map_eq_some_iff.1 yL;exact⟨a,b,r1,r2,rfl,rfl,q',hq,rfl⟩
     ·cases yL
   unfold eqChkF at h;simp only[bMC,bne_iff_ne,ne_eq]at h;obtain⟨hn,ho,hu,hr⟩:=h;have ho:=bMK ho;split at hu
   ·rename_i k' Mq;have x0:=hx 0 _ rfl;have y0:=hy 0 _ rfl;have ih:=Xl d xs ys r ks (i+1) r1 r2 q' hr hq (fun j c hc=>by have:=hx (j+1) c hc;rwa [show i+(j+1)=i+1+j from by omega]at this) (fun j c hc=>by have:=hy (j+1) c hc;rwa [show i+(j+1)=i+1+j from by omega]at this);rw[bMX,<-ho]at x0 y0;simp only[Op.eqFields,ne_eq,hn,not_false_eq_true,if_true,Sem.run_bind,Ag Mq x0,Ag Mq y0,Result.andThen_ok,run_equalIn_int w d f.type _ _ a b Mq];cases aWX:(a==b)with
    |true=>simpa [Sem.run_ite] using ih
    |false=>simp
   ·cases hu
theorem aPC{ks:List IntKind}(h:aQH P t ks){xs ys:Array Value}{cs ds:List S}{q:Bool}(he:eqInts ks cs ds=some q)
  (hx:∀(j:Nat) (c:Value),cs[j]?=some (.sc c)->xs[j]?=some c) (hy:∀(j:Nat) (c:Value),ds[j]?=some (.sc c)->ys[j]?=some c) :
  (∀y z,(do eqGuard .eql t y z (.agg xs) (.agg ys);binOp .eql t (.agg xs) (.agg ys):Sem Value).run P w=.ok (.bool q) w)/\(∀y z,(do eqGuard .neq t y z (.agg xs) (.agg ys);binOp .neq t (.agg xs) (.agg ys):Sem Value).run P w=.ok (.bool (!q)) w):=by
 obtain⟨fields,hu,hs,hf,hg⟩:=h;have aAR:P.fieldsOf t=fields:=by simp[Program.fieldsOf,hu]
 have hr:(Op.equal t (.agg xs) (.agg ys)).run P w=.ok q w:=by
  show(Op.equalIn (9999+1) t (.agg xs) (.agg ys)).run P w=_;rw[run_equalIn_struct w 9999 t xs ys (by rw[aAR];exact hu) hs,aAR];exact Xl (w:=w) 9998 xs ys fields.toList ks 0 cs ds q hf he (fun j c hc=>by rw[bLY];exact hx j c hc) (fun j c hc=>by rw[bLY];exact hy j c hc)
 constructor <;> intro y z <;> rw[Sem.run_bind,run_eqGuard_agg (w:=w) _ t y z xs ys hg,Result.andThen_ok]
 ·show(do pure (Value.bool (<-Op.equal t (.agg xs) (.agg ys))):Sem Value).run P w=_;rw[Sem.run_bind,hr];rfl
 ·show(do pure (Value.bool (!(<-Op.equal t (.agg xs) (.agg ys)))):Sem Value).run P w=_;rw[Sem.run_bind,hr];rfl
theorem xF.run_sizeOf(h:xF P t ti):(sizeOf t).run P w=.ok ti.size w:=by
 obtain⟨i,hi,hs,_⟩:=h.i;simp[sizeOf,typeInfo,hi,hs]
theorem xF.aCG(h:xF P t ti):∃z,(zeroValue t).run P w=.ok z w/\z.cells.toList=ti.zero:=by
 obtain⟨i,hi,hs,hb,z,hz,hc⟩:=h.i;exact⟨z,by simp[zeroValue,typeInfo,hi,hz],hc⟩
end
theorem aR{α:Type}{l:List α}{i:Nat}{x:α}(h:l[i]?=some x):i<l.length:=(List.getElem?_eq_some_iff.1 h).1
theorem aY{α:Type}{l:List α}{i:Nat}(h:i<l.length):∃x,l[i]?=some x:=⟨l[i],bMM h⟩
theorem jX(b off n:Nat):(⟨b,off,none⟩:Addr).add n=⟨b,off+n,none⟩:=by unfold Addr.add;split <;> simp_all
theorem Ov{X:Nat->Prop}{w:World}{zs:List Value}(hz:∀v∈zs,v.oneCell'=true):gF X w (zs.map .sc) zs:=by
 refine⟨by simp,fun i s u hs hu=>?_⟩;simp only[bMA,hu,bMJ,Option.some.injEq]at hs;subst hs;exact⟨rfl,hz u (bMF hu)⟩
theorem aAY{X:Nat->Prop}{w:World}{zs:List Value}(wd:Option IntKind)(hz:∀v∈zs,v.oneCell'=true):gF X w (zs.map (wideS wd)) zs:=by
 refine⟨by simp,fun i s u hs hu=>?_⟩;simp only[bMA,hu,bMJ,Option.some.injEq]at hs;subst hs;have h0:=hz u (bMF hu);unfold wideS;split
 ·exact⟨rfl,h0⟩
 ·split
  ·exact⟨none,0,rfl,bLW _,fun i n hn=>by simp at hn⟩
  ·exact⟨rfl,h0⟩
theorem gF.cells{X:Nat->Prop}{w:World}{cs:List S}{arr:Array Value}(h:gF X w cs arr.toList):vH X w (.cells cs) arr :=
 ⟨by have:=h.1;simp at this;omega,fun i s hs=>by
  have iN:=aR hs;rw[h.1]at iN;obtain⟨u,hu⟩:=aY iN;exact⟨u,by simpa using hu,h.2 i s u hs hu⟩⟩
theorem Ml{P:Program}{X:Nat->Prop}{w:World}{t:TypeId}{ti:TI}(hT:xF P t ti){b off:Nat}{cs:List S}(hc:∀(i:Nat) (s:S),cs[i]?=some s->∃u,w.cell? ⟨b,off+i,none⟩=some u/\mW X w s u)
  {j:Nat} {x:V} (hp:partOf ti cs j=some x) {ρ:Nat->Nat} {hp':Nat->Option iM}:∃v,(loadVar t ⟨b,off+j,none⟩).run P w=.ok v w/\Bk ρ hp' X w x v/\refsV x=[]:=by
 unfold partOf at hp;unfold loadVar;rw[Sem.run_bind,hT.Ke,Result.andThen_ok];split at hp
 ·rename_i Tw;split at hp
  ·rename_i hle;cases hp;rw[if_pos Tw,Sem.run_bind,hT.run_sizeOf,Result.andThen_ok];have hex:∀i,i<ti.size->∃u,w.cell? ⟨b,off+j+i,none⟩=some u/\∀s,cs[j+i]?=some s->mW X w s u:=by
    intro i hi;obtain⟨s,hs⟩:=aY (l:=cs) (i:=j+i) (by omega);obtain⟨u,hu,hr⟩:=hc (j+i) s hs;refine⟨u,by rw[<-hu];congr 2;omega,fun s' nY=>?_⟩;rw[hs]at nY;cases nY;exact hr
   obtain⟨f,hf⟩:∃f:Nat->Value,∀i,i<ti.size->w.cell? ⟨b,off+j+i,none⟩=some (f i)/\∀s,cs[j+i]?=some s->mW X w s (f i) :=
    ⟨fun i=>if h:i<ti.size then Classical.choose (hex i h)else undef,fun i hi=>by simp only[hi,dif_pos];exact Classical.choose_spec (hex i hi)⟩
   have hl:=run_loadCells_list (P:=P) w ⟨b,off+j,none⟩ ((bNG ti.size).map f) (fun i v hv=>by
    have hi:=aR hv;simp at hi;rw[jX,(hf i hi).1];simpa [hi] using hv)
   simp only[bNP,List.length_range]at hl;rw[Sem.run_bind,hl];refine⟨_,rfl,⟨_,rfl,⟨by simp;omega,fun i s u hs hu=>?_⟩⟩,rfl⟩;have hi:=aR hu;simp at hi;have Mq:u=f i:=by simpa [hi] using hu.symm
   subst Mq;refine(hf i hi).2 s ?_;rw[bMB hi,bMI]at hs;exact hs
  ·cases hp
 ·rename_i Tw;split at hp <;> cases hp;rename_i c bAN;obtain⟨u,hu,hr⟩:=hc j c bAN;refine⟨u,?_,hr,rfl⟩;rw[if_neg (by simpa using Tw),run_load,hu]
theorem List.oC{α:Type}(cs new:List α)(off i:Nat)(h:off+new.length<=cs.length) :
  (cs.take off ++ (new ++ cs.drop (off+new.length)))[i]?=if off<=i/\i<off+new.length then new[i-off]? else cs[i]?:=by
 by_cases h1:i<off
 ·rw[bNH (by simp;omega),bMB h1,aX]
 ·rw[bNI (by simp;omega)];have e:(cs.take off).length=off:=by simp;omega
  rw[e]
  by_cases h2:i<off+new.length
  ·rw[bNH (by omega),aT]
  ·rw[bNI (by omega),aX,bMI];congr 1;omega
theorem Pe{X:Nat->Prop}{w:World}{cs new:List S}{arr:Array Value}{Yn:List Value}(h:vH X w (.cells cs) arr)(hn:gF X w new Yn){off:Nat}(hle:off+new.length<=cs.length) :
  vH X w (.cells (setAt cs off new)) (arr.toList.take off ++ (Yn ++ arr.toList.drop (off+Yn.length))).toArray:=by
 have h1:=h.1;have h2:off+Yn.length<=arr.toList.length:=by rw[<-hn.1];simp;omega
 refine⟨by simp[setAt];have:=hn.1;omega,fun i s hs=>?_⟩;unfold setAt at hs;rw[List.oC _ _ _ _ hle]at hs;have e:(arr.toList.take off ++ (Yn ++ arr.toList.drop (off+Yn.length))).toArray[i]?=(arr.toList.take off ++ (Yn ++ arr.toList.drop (off+Yn.length)))[i]?:=by simp
 rw[e,List.oC _ _ _ _ h2,<-hn.1];split at hs
 ·rename_i hi;rw[if_pos hi];have iN:=aR hs;rw[hn.1]at iN;obtain⟨u,hu⟩:=aY iN;exact⟨u,hu,hn.2 _ s u hs hu⟩
 ·rename_i hi;rw[if_neg hi];obtain⟨u,hu,hr⟩:=h.2 i s hs;exact⟨u,by simpa using hu,hr⟩
theorem Ss{X:Nat->Prop}{w:World}{cs new:List S}{vs Yn:List Value}(h:gF X w cs vs)(hn:gF X w new Yn){off:Nat}(hle:off+new.length<=cs.length) :
  gF X w (setAt cs off new) (vs.take off ++ (Yn ++ vs.drop (off+Yn.length))):=by
 have h1:=h.1;have h2:=hn.1;refine⟨by unfold setAt;simp;omega,fun i s u hs hu=>?_⟩;unfold setAt at hs;rw[List.oC cs new off i hle]at hs;rw[List.oC vs Yn off i (by omega)]at hu
 by_cases hi:off<=i/\i<off+new.length
 ·rw[if_pos hi]at hs;rw[aT]at hu;exact hn.2 _ s u hs hu
 ·rw[if_neg hi]at hs;rw[aX]at hu;exact h.2 _ s u hs hu
end AI
namespace AI
open Go Go.RowKit
def lY(al:Nat->Prop)(id:Nat):Nat->Prop:=fun i=>al i\/(id<=i/\i<id+8)
section
variable {P:Program} {E:Env} {X:Nat->Prop} {w0:Old} {ρ:Nat->Nat} {al:Nat->Prop} {fr:Nat->A} {hp:Nat->Option iM} {a:Act} {w:World} {o:Oper} {id:Nat} {x:A} {u:nZ}
def iD(P:Program)(E:Env)(X:Nat->Prop)(w0:Old)(al:Nat->Prop)(fr:Nat->A)(hp:Nat->Option iM)(a:Act)(w:World)(o:Oper)(id:Nat)(x:A)(u:nZ):Prop :=
 ∃ρ' v w',((execOp a.eval o).run P w=.ok (.value v) w'\/((execOp a.eval o).run P w=.ok .skip w'/\v=undef))/\gV E X w0 ρ' (lY al id) (zE o x fr) (applyUps u hp) (a.put o.dst v) w'
theorem gV.more(h:gV E X w0 ρ al fr hp a w)(id:Nat):gV E X w0 ρ (lY al id) fr hp a w :=
 { fr:=h.fr,sz:=h.sz,nod:=h.nod,blk:=h.blk,inj:=h.inj,alh:=fun i b hb=>.inl (h.alh i b hb),alr:=fun t i hi=>.inl (h.alr t i hi),below:=h.below,x0:=h.x0,glob:=h.glob,mg:=h.mg,al0:=fun i hi=>.inl (h.al0 i hi),qJ:=h.qJ }
theorem bY(h:gV E X w0 ρ al fr hp a w)(hd:gY E.nt o=true){v:Value}(eY:(execOp a.eval o).run P w=.ok (.value v) w)(hx:vI ρ hp (XO X ρ hp) w x v)(aSS:∀i∈refs x,al i) :
  iD P E X w0 al fr hp a w o id x [] :=
 ⟨ρ,v,w,.inl eY,(h.more id).pure hd hx (fun i hi=>.inl (aSS i hi))⟩
theorem kQ(v:Value):refs (yJ v)=[]:=rfl
theorem Qs(h:gV E X w0 ρ al fr hp a w)(hd:gY E.nt o=true){y:Operand}(ho:o.op=.move y\/o.op=.assign y)(he:oX E id o (evA E fr) hp=some (x,u)):iD P E X w0 al fr hp a w o id x u:=by
 have h1:=h.ev y;rcases ho with ho |ho
 all_goals
  unfold oX effK at he;rw[ho]at he;cases he;exact bY h hd (v:=a.eval y) (by unfold execOp;rw[ho];rfl) h1.1 h1.2
theorem aEW(h:gV E X w0 ρ al fr hp a w)(hd:gY E.nt o=true){c y z:Operand}(ho:o.op=.pick c y z)(he:oX E id o (evA E fr) hp=some (x,u)):iD P E X w0 al fr hp a w o id x u:=by
 have hc:=(h.ev c).1;have hy:=h.ev y;have hz:=h.ev z;have eY:∀t,a.eval c=.bool t->(execOp a.eval o).run P w=.ok (.value (if t then a.eval y else a.eval z)) w:=by
  intro t ht;unfold execOp;rw[ho];simp[ht,asBool]
 unfold oX effK at he;rw[ho]at he;simp only at he;split at he
 ·rename_i t bAK;rw[bAK]at hc;have aOS:a.eval c=.bool t:=hc.1;split at he
  ·rename_i p q zW Ms;cases he;rw[zW]at hy;rw[Ms]at hz;have e1:a.eval y=.bool p:=hy.1.1;have e2:a.eval z=.bool q:=hz.1.1;refine bY h hd (eY t aOS) ?_ (by simp[kQ]);rw[e1,e2];cases t <;> exact⟨rfl,rfl⟩
  ·cases t <;> cases he
   ·exact bY h hd (eY false aOS) (by simpa using hz.1) hz.2
   ·exact bY h hd (eY true aOS) (by simpa using hy.1) hy.2
 ·cases he
theorem oK(id:Nat):lY al id id:=.inr ⟨bLW _,by omega⟩
theorem Gc(e:TypeId)(v:Value):(newVar e v).run P w=.ok ⟨w.heap.size,0,none⟩ (w.alloc (.cells v.cells e)):=rfl
theorem Zs(h:gV E X w0 ρ al fr hp a w)(hd:gY E.nt o=true)(hT:mG P E.T)(tW:∀j,j<8->¬al (id+j)){e:TypeId}(ho:o.op=.alloc e)(he:oX E id o (evA E fr) hp=some (x,u)):iD P E X w0 al fr hp a w o id x u:=by
 unfold oX effK at he;rw[ho]at he;simp only at he;split at he
 ·rename_i ti uJ;cases he;have ht:=hT e ti uJ;obtain⟨z,hz,Jh⟩:=ht.aCG (w:=w);have Ef:vH (XO X ρ hp) w (.cells (ti.zero.map (wideS E.wide))) z.cells:=by
   refine gF.cells ?_;rw[Jh];exact aAY E.wide ht.zo
  have h1:=h.alloc (id:=id) (al':=lY al id) (tW 0 (by omega)) (fun _ h=>.inl h) (oK id) e _ _ Ef;refine⟨_,.pointer (some ⟨w.heap.size,0,none⟩),_,.inl ?_,h1.pure hd (x:=.v (.one (.ptr id 0))) ?_ ?_⟩
  ·unfold execOp;rw[ho];simp only[Instr.alloc,Sem.run_bind,hz,Result.andThen_ok,Sem.run_pure,Gc]
  ·show _=_;rw[bG]
  ·intro i hi;simp only[refs,refsV,refsL,bMN]at hi;subst hi;exact oK i
 ·cases he
theorem aJQ(h:gV E X w0 ρ al fr hp a w)(hd:gY E.nt o=true)(tW:∀j,j<8->¬al (id+j)){e:TypeId}{y:Operand}(ho:o.op=.box e y)(he:oX E id o (evA E fr) hp=some (x,u)):iD P E X w0 al fr hp a w o id x u:=by
 unfold oX effK at he;rw[ho]at he;simp only at he;split at he
 ·rename_i ti cs u1 uJ Qk;split at he <;> cases he;obtain⟨hu,Ef⟩:=tH h (h.ev y).1 Qk;have h0:=h.cons hu;have h1:=h0.alloc (id:=id) (al':=lY al id) (tW 0 (by omega)) (fun _ h=>.inl h) (oK id) e (.cells cs) _ Ef.cells;unfold iD;rw[jB];refine⟨_,.pointer (some ⟨w.heap.size,0,none⟩),_,.inl ?_,h1.pure hd (x:=.v (.one (.ptr id 0))) ?_ ?_⟩
  ·unfold execOp;rw[ho];simp only[Instr.box,Sem.run_bind,Result.andThen_ok,Sem.run_pure,Gc]
  ·show _=_;rw[bG]
  ·intro i hi;simp only[refs,refsV,refsL,bMN]at hi;subst hi;exact oK i
 ·cases he
theorem aEX(h:gV E X w0 ρ al fr hp a w)(hd:gY E.nt o=true)(hT:mG P E.T){t:TypeId}{y:Operand}(ho:o.op=.load t y)(he:oX E id o (evA E fr) hp=some (x,u)):iD P E X w0 al fr hp a w o id x u:=by
 have hy:=(h.ev y).1;have eY:∀ad v,a.eval y=.pointer (some ad)->(loadVar t ad).run P w=.ok v w->(execOp a.eval o).run P w=.ok (.value v) w:=by
  intro ad v h1 h2;unfold execOp;rw[ho];simp only[h1,Instr.loadAt,Instr.sureAddr,Sem.run_bind,Sem.run_pure,Result.andThen_ok,h2]
 unfold oX effK at he;rw[ho]at he;simp only at he;split at he
 ·rename_i ti uJ;have ht:=hT t ti uJ;split at he
  ·rename_i i off gR;rw[gR]at hy;have hy:a.eval y=.pointer (some ⟨ρ i,off,none⟩):=hy;split at he
   ·rename_i e cs hb;obtain⟨_,arr,hg,hc⟩:=h.blk i _ hb;split at he <;> cases he;rename_i v hv;obtain⟨v',h1,h2,h3⟩:=Ml (P:=P) ht (b:=ρ i) (off:=0) (cs:=cs) (fun j s hs=>by
     obtain⟨u,hu,hr⟩:=hc.2 j s hs;exact⟨u,by rw[cell_of_row w (ρ i) _ arr e (0,0) hg];simpa using hu,hr⟩) hv (ρ:=ρ) (hp':=hp)
    rw[bLY]at h1;exact bY h hd (eY _ _ hy h1) h2 (by simp[refs,h3])
   ·cases he
  ·rename_i i j gR;rw[gR]at hy;obtain⟨hy,iN⟩:=hy;split at he
   ·rename_i e k ns hb Tw;cases he;have hj:=iN _ k ns hb rfl;have hc:=h.vC hb (bMM hj);refine bY h hd (v:=.int k (ns.getD j 0)) (eY _ _ hy ?_) ⟨rfl,rfl⟩ (by simp[kQ]);unfold loadVar;rw[Sem.run_bind,ht.Ke,Result.andThen_ok,if_neg (by simp[Tw]),run_load,hc];simp[bNQ,hj]
   ·cases he
  ·rename_i cs gR;rw[gR]at hy;obtain⟨b,off,hy,hc⟩:=hy;split at he <;> cases he;rename_i v hv;obtain⟨v',h1,h2,h3⟩:=Ml (P:=P) ht (b:=b) (off:=off) (cs:=cs) (fun j s hs=>by
    obtain⟨_,_,u,hu,hr⟩:=hc j s hs;exact⟨u,hu,hr⟩) hv (ρ:=ρ) (hp':=hp)
   rw[bMX]at h1;exact bY h hd (eY _ _ hy h1) h2 (by simp[refs,h3])
  ·cases he
 ·cases he
theorem jA{g:Nat}{arr:Array Value}{e:TypeId}{f:Nat×Nat}(h:w.heap[g]?=some (.cells arr e f)):jQ w g=arr.size:=by unfold jQ;rw[h]
theorem Zm(h:gV E X w0 ρ al fr hp a w)(hd:gY E.nt o=true)(hT:mG P E.T){t:TypeId}{y z:Operand}(ho:o.op=.store t y z)(he:oX E id o (evA E fr) hp=some (x,u)):iD P E X w0 al fr hp a w o id x u:=by
 have hy:=(h.ev y).1;have hz:=(h.ev z).1;have eY:∀ad w',a.eval y=.pointer (some ad)->(storeVar t ad (a.eval z)).run P w=.ok () w'->(execOp a.eval o).run P w=.ok .skip w':=by
  intro ad w' h1 h2;unfold execOp;rw[ho];simp only[h1,Instr.storeAt,Instr.sureAddr,Sem.run_bind,Sem.run_pure,Result.andThen_ok,h2]
 unfold oX effK at he;rw[ho]at he;simp only at he;split at he
 ·rename_i ti uJ;have ht:=hT t ti uJ;split at he
  ·rename_i i off gR;rw[gR]at hy;have hy:a.eval y=.pointer (some ⟨ρ i,off,none⟩):=hy;split at he
   ·rename_i e cs new u1 hb bJS;split at he <;> cases he;rename_i He;obtain⟨Dq,aZS,bHO⟩:=He;obtain⟨hu,Ef⟩:=tH h hz bJS;have h0:=h.cons hu;have hb0:applyUps u1 hp i=some ⟨e,.cells cs⟩:=by
     have:∀(u:nZ) (hp:Nat->Option iM),(u.all fun p=>p.1 !=i)=true->applyUps u hp i=hp i:=by
      intro u
      induction u with
      |nil=>intros;rfl
      |cons p u ih =>
       intro hp wW;obtain⟨j,c⟩:=p;simp only[List.all_cons,bMC,bne_iff_ne]at wW;rw[applyUps,ih _ wW.2,eG _ _ (fun e=>wW.1 e.symm)]
     rw[this u1 hp bHO];exact hb
    obtain⟨_,arr,hg,hc⟩:=h0.blk i _ hb0;have pY:cs.length<=arr.size:=hc.1;have bDR:(a.eval z).cells.size=new.length:=by have:=Ef.1;simpa using this.symm
    have Mt:∀v∈(a.eval z).cells.toList,v.oneCell'=true:=by
     intro v hv;obtain⟨k,hk⟩:=bMU hv;obtain⟨s,hs⟩:=aY (l:=new) (i:=k) (by rw[Ef.1];exact aR hk);exact(Ef.2 k s v hs hk).one
    have Yx:=run_storeCells_at P (ρ i) off e (a.eval z).cells.toList 0 arr w hg (by simp;omega) Mt;simp only[bMX]at Yx;have h1:=h0.setRow hb0 (.cells (setAt cs off new)) (arr.toList.take off ++ ((a.eval z).cells.toList ++ arr.toList.drop (off+(a.eval z).cells.toList.length))).toArray
     ⟨fun k ns e=>(by cases e),fun Ho e=>by cases e;exact⟨cs,rfl,by simp[setAt];omega⟩⟩ (by rw[jA hg];simp;omega) (Pe hc Ef aZS)
    unfold iD;rw[jB];refine⟨ρ,undef,_,.inr ⟨eY _ _ hy ?_,rfl⟩,(h1.more id).pure hd (x:=.any) trivial (by simp[refs])⟩;unfold storeVar;rw[Sem.run_bind,ht.run_sizeOf,Result.andThen_ok,if_neg (by rw[bDR,Dq];simp),Yx];simp[bNR]
   ·cases he
  ·rename_i i j gR;rw[gR]at hy;obtain⟨hy,iN⟩:=hy;split at he
   ·rename_i e k ns k' n hb bJM;split at he <;> cases he;rename_i hk;obtain⟨rfl,Se⟩:=hk;have hj:=iN _ k ns hb rfl;rw[bJM]at hz;have hz:a.eval z=.int k n:=hz.1;obtain⟨_,arr,hg,hc⟩:=h.blk i _ hb;have bEJ:j<arr.size:=bMW hj hc.1;have Yx:=run_storeCells_at P (ρ i) j e [.int k n] 0 arr w hg (by simp;omega) (by simp[Value.oneCell']);simp only[bMX]at Yx;have aZD:(arr.toList.take j ++ [Value.int k n] ++ arr.toList.drop (j+[Value.int k n].length)).toArray=arr.setIfInBounds j (.int k n):=by
     apply Array.ext';simp only[Array.toList_setIfInBounds,List.length_cons,List.length_nil];rw[List.set_eq_take_append_cons_drop,if_pos (by simpa using bEJ)];simp
    rw[aZD]at Yx;have h1:=h.setRow hb (.ints k (ns.set j n)) (arr.setIfInBounds j (.int k n)) ⟨fun k1 Sa e=>(by cases e;exact⟨k,ns,rfl,by simp⟩),fun Ho e=>(by cases e)⟩ (by rw[jA hg];simp) (by
     refine⟨by simpa using hc.1,fun l m hl=>?_⟩;rw[List.getElem?_set]at hl;rw[Array.getElem?_setIfInBounds];split at hl
     ·rename_i aDR;subst aDR;rw[if_pos rfl,if_pos bEJ];first | (cases hl;rfl) | (split at hl <;> cases hl;rfl)
     ·rename_i aDR;rw[if_neg aDR];exact hc.2 l m hl)
    refine⟨ρ,undef,_,.inr ⟨eY _ _ hy ?_,rfl⟩,(h1.more id).pure hd (x:=.any) trivial (by simp[refs])⟩;unfold storeVar;rw[Sem.run_bind,ht.run_sizeOf,Result.andThen_ok,hz,if_neg (by simp[Value.cells,Se])];exact Yx
   ·cases he
  ·cases he
 ·cases he
theorem Bc{u:nZ}(hu:Cons u)(hp:Nat->Option iM)(i:Nat):applyUps u hp i=if i∈u.map (·.1)then none else hp i:=by
 induction u generalizing hp with
 |nil=>rfl
 |cons p u ih =>
  obtain⟨j,c⟩:=p;have hc:c=none:=hu (j,c) (by simp);subst hc;rw[applyUps,ih (fun p hp=>hu p (by simp[hp]))]
  by_cases aQQ:i=j
  ·subst aQQ;rw[bG];simp
  ·rw[eG _ _ aQQ];simp only[bLV,bNC,aQQ,false_or]
theorem gF.Ku{cs:List S}{vs:List Value}{u1 u2:nZ}(h1:Cons u1)(h2:Cons u2)(hs:∀i,i∈u1.map (·.1)->i∈u2.map (·.1))(h:gF (XO X ρ (applyUps u1 hp)) w cs vs):gF (XO X ρ (applyUps u2 hp)) w cs vs:=by
 refine h.later ⟨bLW _,fun b _ hx=>⟨rfl,fun ho=>hx (ho.imp (fun h=>h) ?_)⟩⟩;rintro ⟨i,bl,hb,hr⟩;refine⟨i,bl,?_,hr⟩;rw[Bc h2]at hb;rw[Bc h1];split at hb
 ·cases hb
 ·rename_i hn;rw[if_neg (fun h=>hn (hs i h))];exact hb
theorem Qm(off:Nat):∀(vs:List Value) (k:Nat) (arr:Array Value),off+k+vs.length<=arr.size ->
  ((vs.zipIdx k).foldl (fun cs p=>cs.setIfInBounds (off+p.2) p.1) arr).toList=arr.toList.take (off+k) ++ vs ++ arr.toList.drop (off+k+vs.length)
 | [],k,arr,_=>by simp
 |v :: vs,k,arr,h=>by
  simp only[List.zipIdx_cons,List.foldl_cons];rw[Qm off vs (k+1) (arr.setIfInBounds (off+k) v) (by simp at h ⊢;omega)];simp only[Array.toList_setIfInBounds];have:=list_seg_step arr.toList (off+k) v vs (by simp at h ⊢;omega);simpa [Nat.add_assoc] using this
theorem kD{R:Type}(hp:Nat->Option iM)(place:Nat->Option (Nat×Nat))(ev:Operand->A)(parts:List (Nat×Operand))(cs:List S)(u:nZ)(K:List S->nZ->Option R) :
  fillK hp place ev parts cs u K=(fillK hp place ev parts cs u (fun cs u=>some (cs,u))).bind fun r=>K r.1 r.2:=by
 induction parts generalizing cs u with
 |nil=>rfl
 |cons p rest ih =>
  obtain⟨i,y⟩:=p;simp only[fillK];split
  ·split
   ·exact ih _ _
   ·rfl
  ·rfl
theorem uY(h:gV E X w0 ρ al fr hp a w)(place:Nat->Option (Nat×Nat)):∀(parts:List (Nat×Operand)) (cs:List S) (u:nZ) (arr:Array Value) (Ho:List S) (u':nZ),
  Cons u->gF (XO X ρ (applyUps u hp)) w cs arr.toList->fillK hp place (evA E fr) parts cs u (fun cs u=>some (cs,u))=some (Ho,u') ->
  Cons u'/\∃lV,Instr.fill place arr (parts.map fun p=>(p.1,a.eval p.2))=some lV/\gF (XO X ρ (applyUps u' hp)) w Ho lV.toList/\lV.size=arr.size
 | [],cs,u,arr,Ho,u',hu,hr,he=>by cases he;exact⟨hu,arr,rfl,hr,rfl⟩
 | (i,y) :: rest,cs,u,arr,Ho,u',hu,hr,he=>by
  simp only[fillK]at he;split at he
  ·rename_i off size new u1 Sg bJT;split at he
   ·rename_i He;obtain⟨aDI,hn⟩:=tH h (h.ev y).1 bJT;have pY:(a.eval y).cells.size=size:=by have:=hn.1;simp at this;omega
    have hle:off+(a.eval y).cells.size<=arr.size:=by have:=hr.1;simp at this;omega
    have bAJ:Cons (u ++ u1):=fun p hp=>(List.mem_append.1 hp).elim (hu p) (aDI p)
    have bHX:gF (XO X ρ (applyUps (u ++ u1) hp)) w cs arr.toList:=hr.Ku hu bAJ (fun i hi=>by simp only[bMV,bMY];exact .inl hi);have Yz:gF (XO X ρ (applyUps (u ++ u1) hp)) w new (a.eval y).cells.toList:=hn.Ku aDI bAJ (fun i hi=>by simp only[bMV,bMY];exact .inr hi);have aOA:=Ss bHX Yz He.2;have aUK:=Qm off (a.eval y).cells.toList 0 arr (by simpa using hle);obtain⟨Up,aMC⟩:∃Up,Up=(a.eval y).cells.zipIdx.foldl (fun cs p=>cs.setIfInBounds (off+p.2) p.1) arr:=⟨_,rfl⟩;have Dq:Up.toList=arr.toList.take off ++ ((a.eval y).cells.toList ++ arr.toList.drop (off+(a.eval y).cells.toList.length)):=by
     rw[aMC,<-Array.foldl_toList,Array.toList_zipIdx,aUK];simp[bNR]
    rw[<-Dq]at aOA;have aYX:Up.size=arr.size:=by
     have:Up.toList.length=arr.toList.length:=by rw[Dq];simp;omega
     simpa using this
    obtain⟨bAI,lV,hf,Ef,hs⟩:=uY h place rest (setAt cs off new) (u ++ u1) Up Ho u' bAJ aOA he;refine⟨bAI,lV,?_,Ef,hs.trans aYX⟩;rw[bLV,Instr.fill,Sg];simp only;rw[if_neg (by simp;omega)];have e:(Array.foldl (fun cs (x:Value×Nat)=>match x with | (c,j)=>cs.setIfInBounds (off+j) c) arr (a.eval y).cells.zipIdx)=Up:=aMC.symm;rw[e];exact hf
   ·cases he
  ·cases he
theorem wP{α β:Type}{f:α->Option β}:∀{l:List α} {r:List β},l.mapM f=some r->r.length=l.length
 | [],r,h=>by simp at h;subst h;rfl
 |x :: l,r,h=>by
  rw[bND]at h;simp only[bOB,bOC,bOD,Option.some.injEq]at h;obtain⟨y,_,ys,bHC,rfl⟩:=h;simp[wP bHC]
theorem Zq(h:gV E X w0 ρ al fr hp a w)(hd:gY E.nt o=true)(hT:mG P E.T){t:TypeId}{parts:Array (Nat×Operand)}(ho:o.op=.build t parts)(he:oX E id o (evA E fr) hp=some (x,u)):iD P E X w0 al fr hp a w o id x u:=by
 have fin:∀(lV:Array Value) cs u,(execOp a.eval o).run P w=.ok (.value (.agg lV)) w->Cons u->gF (XO X ρ (applyUps u hp)) w cs lV.toList->iD P E X w0 al fr hp a w o id (.v (.agg cs)) u:=by
  intro lV cs u eY hu Ef;exact⟨ρ,.agg lV,w,.inl eY,((h.cons hu).more id).pure hd ⟨lV,rfl,Ef⟩ (by simp[refs,refsV])⟩
 have hex:∀r,(Instr.build t (parts.map fun p=>(p.1,a.eval p.2))).run P w=.ok r w->(execOp a.eval o).run P w=.ok (.value r) w:=by
  intro r hr;unfold execOp;rw[ho];simp only[Sem.run_bind];rw[hr];rfl
 unfold oX effK at he;rw[ho]at he;simp only at he;split at he
 ·rename_i size bytes zero fs uJ;have ht:=hT t _ uJ;obtain⟨i,hi,_,_,z,hz,Jh⟩:=ht.i;obtain⟨d,sO,fields,rfl,aQT,hf⟩:=ht.d;rw[kD]at he;obtain⟨⟨cs,u2⟩,Qi,he⟩:=Option.bind_eq_some_iff.1 he;cases he;obtain⟨hu,lV,h1,h2,h3⟩:=uY h _ parts.toList _ [] z.cells cs u2 (fun p hp=>by cases hp) (by rw[Jh];exact Ov ht.zo) Qi;refine fin lV cs u2 (hex _ ?_) hu h2;obtain⟨tD,Sg,bID⟩:∃tD:List (Nat×Nat),fields.toList.mapM (fun f=>(P.info? f.type).map fun i=>(f.offset,i.size))=some tD/\∀(k:Nat) (p:Nat×Nat),tD[k]?=some p->(fs[k]?).map (fun(f:Nat×Nat×Bool)=>(f.1,f.2.1))=some p:=by
   have:∀(l:List Field) (s:Nat),(∀(k:Nat) (f:Field),l[k]?=some f->∃fi fd,P.info? f.type=some fi/\P.underlying f.type=some fd/\fs[s+k]?=some (f.offset,fi.size,pW fd)) ->
     ∃tD:List (Nat×Nat),l.mapM (fun f=>(P.info? f.type).map fun i=>(f.offset,i.size))=some tD/\∀(k:Nat) (p:Nat×Nat),tD[k]?=some p->(fs[s+k]?).map (fun(f:Nat×Nat×Bool)=>(f.1,f.2.1))=some p:=by
    intro l
    induction l with
    |nil=>intro s _;exact⟨[],rfl,fun k p hk=>by simp at hk⟩
    |cons f l ih =>
     intro s hl;obtain⟨fi,fd,e1,e2,e3⟩:=hl 0 f rfl;obtain⟨pl,p1,p2⟩:=ih (s+1) (fun k g hk=>by have:=hl (k+1) g (by simpa using hk);rwa [show s+(k+1)=s+1+k by omega]at this);refine⟨(f.offset,fi.size) :: pl,by simp[bND,e1,p1],fun k p hk=>?_⟩
     match k with
     |0=>simp at hk;subst hk;simp at e3;simp[e3]
     |k+1=>simp at hk;have:=p2 k p hk;rwa [show s+1+k=s+(k+1) by omega]at this
   obtain⟨pl,p1,p2⟩:=this fields.toList 0 (fun k f hk=>by rw[bLY];exact hf k f (by simpa using hk));exact⟨pl,p1,fun k p hk=>by have:=p2 k p hk;rwa [bLY]at this⟩
  refine run_build w t _ lV ?_;unfold Program.built;simp only[hi,sO,hz,Sg,Array.toList_map];have Kp:∀(ps:List (Nat×Value)) (arr:Array Value) r,Instr.fill (fun i=>(fs[i]?).map fun(f:Nat×Nat×Bool)=>(f.1,f.2.1)) arr ps=some r->Instr.fill (tD.toArray[·]?) arr ps=some r:=by
   intro ps
   induction ps with
   |nil=>intro arr r h;exact h
   |cons p ps ih =>
    intro arr r h;obtain⟨i,v⟩:=p;unfold Instr.fill at h ⊢;cases hq:tD[i]? with
    |none =>
     have h1:tD.length=fields.size:=by simpa using (wP Sg)
     have h2:fs[i]?=none:=bNS (by have:=List.getElem?_eq_none_iff.1 hq;omega);simp[h2]at h
    |some q =>
     have:=bID i q hq;simp only[this]at h;have bIA:tD.toArray[i]?=some q:=by simp[hq]
     simp only[bIA];obtain⟨o1,s1⟩:=q;simp only at h ⊢;split at h
     ·cases h
     ·rename_i hc;rw[if_neg hc];exact ih _ _ h
  have e:parts.toList.map (fun p=>(p.1,a.eval p.2))=parts.toList.map (fun x=>(x.fst,a.eval x.snd)):=rfl;rw[e]at h1;exact Kp _ _ _ h1
 ·rename_i size bytes zero len nP g uJ;have ht:=hT t _ uJ;obtain⟨i,hi,_,_,z,hz,Jh⟩:=ht.i;obtain⟨d,sO,e,ei,ed,rfl,Zc,aLU,_,_⟩:=ht.d;rw[kD]at he;obtain⟨⟨cs,u2⟩,Qi,he⟩:=Option.bind_eq_some_iff.1 he;cases he;obtain⟨hu,lV,h1,h2,h3⟩:=uY h _ parts.toList _ [] z.cells cs u2 (fun p hp=>by cases hp) (by rw[Jh];exact Ov ht.zo) Qi;refine fin lV cs u2 (hex _ ?_) hu h2;refine run_build w t _ lV ?_;unfold Program.built;simp only[hi,sO,hz,Zc,Array.toList_map];subst aLU;exact h1
 ·cases he
end
end AI
namespace AI
open Go Go.RowKit
section
variable {P:Program} {E:Env} {X:Nat->Prop} {w0:Old} {ρ:Nat->Nat} {al:Nat->Prop} {fr:Nat->A} {hp:Nat->Option iM} {a:Act} {w:World} {o:Oper} {id:Nat} {x:A} {u:nZ}
theorem Ec(w:World)(t e:TypeId)(len:Nat)(parts:Array (Nat×Value))(cells:Array Value)(ie:TypeInfo)(z:Value)
  (hu:P.underlying t=some (.slice e)) (bEK:P.info? e=some ie) (hz:ie.zero=some z) (aOB:¬len*ie.size>2^24)
  (h:Instr.fill (fun i=>some (i*ie.size,ie.size)) ((Array.range (len*ie.size)).map (z.cells[·%z.cells.size]!)) parts.toList=some cells) :
  (Instr.buildSlice t len parts).run P w=.ok (.slice (some ⟨w.heap.size,0,none⟩) len len) (w.alloc (.cells cells e)):=by
 by_cases pJ:len*ie.size=0
 ·rw[pJ]at h;have hr:∀f:Nat->Value,(Array.range 0).map f=#[]:=fun f=>by rw[show Array.range 0=(#[]:Array Nat)from by simp];simp
  rw[hr]at h;simp[Instr.buildSlice,run_underlying hu,sizeOf,typeInfo,bEK,pJ,hr,h,newRow]
 ·simp[Instr.buildSlice,run_underlying hu,sizeOf,typeInfo,zeroValue,bEK,hz,aOB,pJ,h,newRow]
theorem Bd{k:IntKind}:∀{cs:List S} {ns:List Int},allInts k cs=some ns->cs=ns.map fun n=>.sc (.int k n)
 | [],ns,h=>by cases h;rfl
 | .sc (.int k' n) :: r,ns,h=>by
  simp only[allInts]at h;split at h
  ·rename_i hk;subst hk;obtain⟨ms,aIZ,rfl⟩:=Option.map_eq_some_iff.1 h;rw[Bd aIZ];rfl
  ·cases h
 | .ints _ _ :: _,_,h=>by cases h
 | .bot :: _,_,h=>by cases h
 | .sc (.bool _) :: _,_,h=>by cases h
 | .sc (.float _ _) :: _,_,h=>by cases h
 | .sc (.complex _ _ _) :: _,_,h=>by cases h
 | .sc (.string _) :: _,_,h=>by cases h
 | .sc (.pointer _) :: _,_,h=>by cases h
 | .sc (.slice _ _ _) :: _,_,h=>by cases h
 | .sc (.map _) :: _,_,h=>by cases h
 | .sc (.chan _) :: _,_,h=>by cases h
 | .sc (.func _ _ _) :: _,_,h=>by cases h
 | .sc .nilFunc :: _,_,h=>by cases h
 | .sc (.iface _ _) :: _,_,h=>by cases h
 | .sc .nilIface :: _,_,h=>by cases h
 | .sc (.agg _) :: _,_,h=>by cases h
 | .sc (.tuple _) :: _,_,h=>by cases h
theorem Jg{Y:Nat->Prop}{k:IntKind}{ns:List Int}{arr:Array Value}(h:gF Y w (ns.map fun n=>.sc (.int k n)) arr.toList):vH Y w (.ints k ns) arr/\arr.size=ns.length:=by
 have hl:ns.length=arr.size:=by have:=h.1;simpa using this
 refine⟨⟨by omega,fun i n hn=>?_⟩,hl.symm⟩;obtain⟨v,hv⟩:=aY (l:=arr.toList) (i:=i) (by have:=aR hn;simp;omega);have:=(h.2 i (.sc (.int k n)) v (by simp[hn]) hv).1;subst this;simpa using hv
theorem Gw{n:Nat}(h:n<=16777216):n<=maxLen:=by unfold maxLen;omega
theorem Hl(h:gV E X w0 ρ al fr hp a w)(hd:gY E.nt o=true)(hT:mG P E.T)(tW:∀j,j<8->¬al (id+j)){t:TypeId}{len:Nat}{parts:Array (Nat×Operand)}(ho:o.op=.buildSlice t len parts)(he:oX E id o (evA E fr) hp=some (x,u)):iD P E X w0 al fr hp a w o id x u:=by
 unfold oX effK at he;rw[ho]at he;simp only at he;split at he
 ·rename_i s0 b0 z0 e uJ;have ht:=hT t _ uJ;obtain⟨d,sO,zX⟩:=ht.d;have zX:d=.slice e:=zX;subst zX;split at he
  ·rename_i size bytes zero kind Iw;have Ha:=hT e _ Iw;obtain⟨ie,hi,pY,_,z,hz,Jh⟩:=Ha.i;have pY:ie.size=size:=pY;have Jh:z.cells.toList=zero:=Jh;have bDJ:zero.length=size:=Ha.zl;split at he
   ·rename_i He;obtain⟨Se,Ix⟩:=He;rw[kD]at he;obtain⟨⟨cs,u2⟩,Qi,he⟩:=Option.bind_eq_some_iff.1 he;simp only at he;have aUC:gF (XO X ρ (applyUps [] hp)) w ((bNG (len*size)).map fun i=>S.sc (zero.getD (i%size) undef)) ((Array.range (len*ie.size)).map (z.cells[·%z.cells.size]!)).toList:=by
     refine⟨by simp[pY],fun i s v hs hv=>?_⟩;have hi:=aR hs;simp at hi;have aLN:z.cells.size=size:=by rw[<-bDJ,<-Jh];simp
     have hm:i%size<zero.length:=by rw[bDJ];exact Nat.mod_lt _ Ix
     simp[hi]at hs;subst hs;have bEF:i%size<z.cells.size:=by rw[aLN];exact Nat.mod_lt _ Ix
     simp[pY,hi,aLN]at hv;have e1:z.cells[i%size]! = zero[i%size]:=by
      rw[getElem!_pos z.cells (i%size) bEF];simp[<-Jh]
     rw[e1]at hv;subst hv;have e2:zero[i%size]?.getD undef=zero[i%size]:=by simp[hm]
     rw[e2];exact⟨rfl,Ha.zo _ (List.getElem_mem hm)⟩
    obtain⟨hu,lV,h1,h2,h3⟩:=uY h _ parts.toList _ [] _ cs u2 (fun p hp=>by cases hp) aUC Qi;have h3:lV.size=len*size:=by rw[h3];simp[pY]
    have eY:=Ec (P:=P) w t e len (parts.map fun p=>(p.1,a.eval p.2)) lV ie z sO hi hz (by rw[pY];omega) (by rw[Array.toList_map];subst pY;exact h1);have hex:(execOp a.eval o).run P w=.ok (.value (.slice (some ⟨w.heap.size,0,none⟩) len len)) (w.alloc (.cells lV e)):=by
     unfold execOp;rw[ho];simp only[Sem.run_bind];rw[eY];rfl
    have h0:=h.cons hu;have fin:∀c,vH (XO X ρ (applyUps u2 hp)) w c lV->(∀k ns,c=.ints k ns->len=ns.length/\lV.size=len)->(∀Ho,c=.cells Ho->Ho.length=len*size) ->
      iD P E X w0 al fr hp a w o id (.v (.one (.buf id len))) (u2 ++ [(id,some ⟨e,c⟩)]):=by
     intro c hc hints iE;have h1:=h0.alloc (id:=id) (al':=lY al id) (tW 0 (by omega)) (fun _ h=>.inl h) (oK id) e c lV hc;unfold iD;rw[jB];refine⟨_,_,_,.inl hex,h1.pure hd (x:=.v (.one (.buf id len))) ?_ ?_⟩
     ·refine⟨len,by rw[bG],bLW _,fun blk k ns hb hk=>?_,fun blk Ho hb hk=>?_⟩
      rotate_left
      ·rw[bG]at hb;cases hb;refine⟨size,iE Ho hk,?_,Gw ?_⟩
       ·rw[bG,jA (tZ w _)];omega
       ·have:len<=len*size:=bOF _ Ix;omega
      rw[bG]at hb;cases hb;obtain⟨h5,h6⟩:=hints k ns hk;refine⟨h5,Gw ?_,?_⟩
      ·have:len<=len*size:=bOF _ Ix;omega
      ·rw[bG,jA (tZ w _)];omega
     ·intro i hi;simp only[refs,refsV,refsL,bMN]at hi;subst hi;exact oK i
    split at he
    ·split at he <;> cases he;rename_i k ns wW;have Qk:=Bd wW;rw[Qk]at h2;obtain⟨h5,h6⟩:=Jg h2;refine fin _ h5 (fun k1 Sa e1=>?_) (fun Ho e1=>by cases e1);cases e1;simp at h3;exact⟨by omega,h3⟩
    ·cases he;exact fin _ h2.cells (fun k ns e1=>by cases e1) (fun Ho e1=>by cases e1;have:=h2.1;simp at this;omega)
   ·cases he
  ·cases he
 ·cases he
theorem Zl{X:Nat->Prop}{w:World}(hT:mG P E.T){t:TypeId}{cs ds:List S}{q:Bool}(he:eqAgg (E.T t) cs ds=some q){xs ys:Array Value}(hx:gF X w cs xs.toList)(hy:gF X w ds ys.toList) :
  (∀y z,(do eqGuard .eql t y z (.agg xs) (.agg ys);binOp .eql t (.agg xs) (.agg ys):Sem Value).run P w=.ok (.bool q) w)/\(∀y z,(do eqGuard .neq t y z (.agg xs) (.agg ys);binOp .neq t (.agg xs) (.agg ys):Sem Value).run P w=.ok (.bool (!q)) w):=by
 unfold eqAgg at he;split at he
 ·rename_i ti uJ;split at he
  ·rename_i ks bIP;have bFM:∀{cs:List S} {xs:Array Value},gF X w cs xs.toList->∀(j:Nat) (c:Value),cs[j]?=some (.sc c)->xs[j]?=some c:=by
    intro cs xs h j c hc;have iN:j<xs.toList.length:=by rw[<-h.1];exact(List.getElem?_eq_some_iff.1 hc).1
    have hv:xs.toList[j]?=some xs.toList[j]:=bMM iN;have:=(h.2 j _ _ hc hv).1;rw[this]at hv;simpa using hv
   exact aPC ((hT t ti uJ).eq ks bIP) he (bFM hx) (bFM hy)
  ·cases he
 ·cases he
theorem Zr(h:gV E X w0 ρ al fr hp a w)(hd:gY E.nt o=true)(hT:mG P E.T){op:BinOp}{t t':TypeId}{y z:Operand}(ho:o.op=.binOp op t y z t')(he:oX E id o (evA E fr) hp=some (x,u)):iD P E X w0 al fr hp a w o id x u:=by
 have hy:=(h.ev y).1;have hz:=(h.ev z).1;unfold oX effK at he;rw[ho]at he;simp only at he;split at he
 ·rename_i p q zW Ms;rw[zW]at hy;rw[Ms]at hz;have e1:a.eval y=p:=hy.1;have e2:a.eval z=q:=hz.1;cases hb:boolT (E.T t) p with
  |false=>rw[hb]at he;cases he
  |true =>
   rw[hb]at he;simp only[cond_true]at he;rw[Cw]at he;obtain⟨r,hr,he⟩:=Option.bind_eq_some_iff.1 he;cases he;obtain⟨h1,h2⟩:=Zy (P:=P) op t y z p q r w (fun b bIE=>by
    subst bIE;unfold boolT at hb;simp only at hb;split at hb
    ·rename_i s0 b0 z0 uJ;obtain⟨d,aWV,aQV⟩:=(hT t _ uJ).d;have aQV:d=.bool:=aQV;subst aQV;exact aWV
    ·cases hb) hr
   refine bY h hd (v:=r) ?_ ⟨rfl,h2⟩ (by simp[kQ]);unfold execOp;rw[ho];simp only[e1,e2];rw[Sem.run_bind,h1];rfl
 ·rename_i cs ds zW Ms;rw[zW]at hy;rw[Ms]at hz;cases hb:eqAgg (E.T t) cs ds with
  |none=>rw[hb]at he;cases he
  |some b =>
   rw[hb]at he;simp only at he;obtain⟨xs,e1,rx⟩:∃arr,a.eval y=.agg arr/\_:=hy;obtain⟨ys,e2,ry⟩:∃arr,a.eval z=.agg arr/\_:=hz;have eY:=Zl (P:=P) hT hb rx ry;cases op <;> simp only at he <;> cases he
   ·refine bY h hd (v:=.bool b) ?_ ⟨rfl,rfl⟩ (by simp[kQ]);unfold execOp;rw[ho];simp only[e1,e2];rw[Sem.run_bind,eY.1];rfl
   ·refine bY h hd (v:=.bool (!b)) ?_ ⟨rfl,rfl⟩ (by simp[kQ]);unfold execOp;rw[ho];simp only[e1,e2];rw[Sem.run_bind,eY.2];rfl
 ·cases he
theorem aEV(h:gV E X w0 ρ al fr hp a w)(hd:gY E.nt o=true){op:UnOp}{t:TypeId}{y:Operand}(ho:o.op=.unOp op t y)(he:oX E id o (evA E fr) hp=some (x,u)):iD P E X w0 al fr hp a w o id x u:=by
 have hy:=(h.ev y).1;unfold oX effK at he;rw[ho]at he;simp only at he;split at he
 ·rename_i p zW;rw[zW]at hy;have e1:a.eval y=p:=hy.1;rw[Fp]at he;obtain⟨r,hr,he⟩:=Option.bind_eq_some_iff.1 he;cases he;obtain⟨h1,h2⟩:=aBA (P:=P) op p r w hr;refine bY h hd (v:=r) ?_ ⟨rfl,h2⟩ (by simp[kQ]);unfold execOp;rw[ho];simp only[e1,Sem.run_bind,h1,Result.andThen_ok,Sem.run_pure]
 ·cases he
theorem Uh{s d:TypeId}{ds dd:TypeDesc}{k:TK}(h1:P.underlying s=some ds)(h2:P.underlying d=some dd)(h3:Io P k dd){p r:Value}(h:convK k p some=some r) :
  (convert s d p).run P w=.ok r w/\r.oneCell'=true:=by
 unfold convert;simp only[Sem.run_bind,run_underlying h1,run_underlying h2,Result.andThen_ok];unfold convK at h;split at h
 ·have h3:dd=.int _:=h3;subst h3;cases h;exact⟨rfl,rfl⟩
 ·have h3:dd=.float _:=h3;subst h3;cases h;exact⟨rfl,rfl⟩
 ·have h3:dd=.int _:=h3;subst h3;obtain⟨n,hn,h⟩:=Option.bind_eq_some_iff.1 h;split at h <;> cases h;rename_i hb;refine⟨?_,rfl⟩;simp[Conv.floatToInt,hn,hb]
 ·have h3:dd=.float _:=h3;subst h3;split at h <;> cases h;rename_i hs;refine⟨?_,rfl⟩;simp[Conv.floatToFloat,hs]
 ·cases h
theorem Qu(h:gV E X w0 ρ al fr hp a w)(hd:gY E.nt o=true)(hT:mG P E.T){s d:TypeId}{y:Operand}(ho:o.op=.convert s d y)(he:oX E id o (evA E fr) hp=some (x,u)):iD P E X w0 al fr hp a w o id x u:=by
 have hy:=(h.ev y).1;unfold oX effK at he;rw[ho]at he;simp only at he;split at he
 ·rename_i t1 ti p hs sO zW;rw[zW]at hy;have e1:a.eval y=p:=hy.1;rw[zJ]at he;obtain⟨r,hr,he⟩:=Option.bind_eq_some_iff.1 he;cases he;obtain⟨ds,aQU,_⟩:=(hT s _ hs).d;obtain⟨dd,aLW,hk⟩:=(hT d _ sO).d;obtain⟨h1,h2⟩:=Uh (P:=P) (w:=w) aQU aLW hk hr;refine bY h hd (v:=r) ?_ ⟨rfl,h2⟩ (by simp[kQ]);unfold execOp;rw[ho];simp only[e1,Sem.run_bind,h1,Result.andThen_ok,Sem.run_pure]
 ·cases he
theorem Qt(h:gV E X w0 ρ al fr hp a w)(hd:gY E.nt o=true){y:Operand}{i:Nat}(ho:o.op=.extract y i)(he:oX E id o (evA E fr) hp=some (x,u)):iD P E X w0 al fr hp a w o id x u:=by
 have hy:=h.ev y;unfold oX effK at he;rw[ho]at he;simp only at he;split at he
 ·rename_i xs bHF;split at he <;> cases he;rename_i v hv;rw[bHF]at hy;obtain⟨⟨arr,ha,hl,hr⟩,pK⟩:=hy;obtain⟨q,hq⟩:∃q,arr[i]?=some q:=by
   have:=aR hv;exact⟨arr[i],Array.getElem?_eq_getElem (by omega)⟩
  refine bY h hd (v:=q) ?_ (hr i v q hv hq) (fun j hj=>pK j (List.mem_flatMap.2 ⟨v,bMF hv,hj⟩));unfold execOp;rw[ho];simp[Instr.extract,ha,hq]
 ·cases he
theorem pE{y:Operand}{k:IntKind}{n:Int}(h:gV E X w0 ρ al fr hp a w)(he:intArg (evA E fr y)=some (k,n)):a.eval y=.int k n:=by
 have hy:=(h.ev y).1;unfold intArg at he;split at he
 ·rename_i k' n' gR;cases he;rw[gR]at hy;exact hy.1
 ·cases he
theorem Jp(h:gV E X w0 ρ al fr hp a w)(hd:gY E.nt o=true)(hT:mG P E.T){t:TypeId}{y:Operand}{f:Nat}(ho:o.op=.fieldAddr t y f)(he:oX E id o (evA E fr) hp=some (x,u)):iD P E X w0 al fr hp a w o id x u:=by
 have hy:=h.ev y;unfold oX effK at he;rw[ho]at he;simp only at he;split at he
 ·rename_i s0 b0 z0 fs uJ;obtain⟨d,sO,fields,rfl,aQT,hf⟩:=(hT t _ uJ).d;have eY:∀b off o1 size g,fs[f]?=some (o1,size,g)->0<size->a.eval y=.pointer (some ⟨b,off,none⟩)->(execOp a.eval o).run P w=.ok (.value (.pointer (some ⟨b,off+o1,none⟩))) w:=by
   intro b off o1 size g aAR pJ gR;have iN:=aR aAR;obtain⟨fi,fd,e1,e2,e3⟩:=hf f fields[f] (Array.getElem?_eq_getElem (by omega));rw[aAR]at e3;cases e3;unfold execOp;rw[ho];have aZZ:fields[f]?=some fields[f]:=Array.getElem?_eq_getElem (by omega);simp only[gR,Instr.fieldAt,Instr.sureAddr,Sem.run_bind,run_underlying sO,Result.andThen_ok,aZZ,Sem.run_pure,fieldPlace,sizeOf,typeInfo,run_program,e1];rw[aX];simp[jX]
  split at he
  ·rename_i off size g i o1 aAR gR;split at he <;> cases he;rename_i pJ;rw[gR]at hy;exact bY h hd (eY _ _ _ _ _ aAR pJ hy.1) rfl hy.2
  ·rename_i off size g cs aAR gR;split at he <;> cases he;rename_i pJ;rw[gR]at hy;obtain⟨⟨b,aNM,hb,hc⟩,_⟩:=hy;refine bY h hd (eY _ _ _ _ _ aAR pJ hb) ⟨b,aNM+off,rfl,fun i s hs=>?_⟩ (by simp[refs,refsV,refsL]);rw[bMI]at hs;have:=hc (off+i) s hs;rwa [show aNM+(off+i)=aNM+off+i by omega]at this
  ·cases he
 ·cases he
theorem Gk{t:TypeId}{fi:TypeInfo}{fd:TypeDesc}(h1:P.info? t=some fi)(h2:P.underlying t=some fd){Y:Nat->Prop}{cs:List S}{arr:Array Value}(hr:gF Y w cs arr.toList){off:Nat}{v:V}
  (he:(bif pW fd then(if off+fi.size<=cs.length then some (V.agg ((cs.drop off).take fi.size))else none)else(cs[off]?).map fun c=>V.one (.s c))=some v) :
  ∃q,(part t arr off).run P w=.ok q w/\Bk ρ hp Y w v q/\refsV v=[]:=by
 have hl:cs.length=arr.size:=by simpa using hr.1
 have Tw:(isAgg t).run P w=.ok (pW fd) w:=by
  unfold isAgg;rw[Sem.run_bind,run_underlying h2];cases fd <;> rfl
 unfold part;rw[Sem.run_bind,Tw,Result.andThen_ok];cases hg:pW fd with
 |true =>
  rw[hg]at he;simp only[cond_true]at he;split at he <;> cases he;rename_i hle;refine⟨_,by rw[if_pos rfl,Sem.run_bind];simp only[sizeOf,typeInfo,Sem.run_bind,run_program,Result.andThen_ok,h1,Sem.run_pure];rfl,⟨_,rfl,?_⟩,rfl⟩;refine⟨by simp;omega,fun i s q hs hq=>?_⟩;have hi:i<fi.size:=by have:=aR hs;simp at this;omega
  rw[bMB hi,bMI]at hs;refine hr.2 (off+i) s q hs ?_;have iN:=aR hs;simp at hq;rw[bMB (by omega),bMI]at hq;exact hq
 |false =>
  rw[hg]at he;simp only[cond_false]at he;obtain⟨c,hc,rfl⟩:=Option.map_eq_some_iff.1 he;have iN:=aR hc;have hq:arr[off]?=some arr[off]:=Array.getElem?_eq_getElem (by omega);refine⟨arr[off],by simp[hq],hr.2 off c _ hc (by simp[<-hq]),rfl⟩
theorem Zp(h:gV E X w0 ρ al fr hp a w)(hd:gY E.nt o=true)(hT:mG P E.T){t:TypeId}{y:Operand}{f:Nat}(ho:o.op=.field t y f)(he:oX E id o (evA E fr) hp=some (x,u)):iD P E X w0 al fr hp a w o id x u:=by
 have hy:=(h.ev y).1;unfold oX effK at he;rw[ho]at he;simp only at he;split at he
 ·rename_i s0 b0 z0 fs uJ;obtain⟨d,sO,fields,rfl,aQT,hf⟩:=(hT t _ uJ).d;split at he
  ·rename_i off size g cs aAR gR;split at he <;> cases he;rename_i v hv;rw[gR]at hy;obtain⟨arr,ha,hr⟩:=hy;have iN:=aR aAR;obtain⟨fi,fd,e1,e2,e3⟩:=hf f fields[f] (Array.getElem?_eq_getElem (by omega));rw[aAR]at e3;cases e3;obtain⟨q,Ms,aZH,aZG⟩:=Gk (P:=P) (ρ:=ρ) (hp:=hp) e1 e2 hr hv;refine bY h hd (v:=q) ?_ aZH (by simp[refs,aZG]);have aZZ:fields[f]?=some fields[f]:=Array.getElem?_eq_getElem (by omega);unfold execOp;rw[ho];simp only[Instr.field,Sem.run_bind,run_underlying sO,Result.andThen_ok,aZZ,ha,asAgg,Sem.run_pure,Ms]
  ·cases he
 ·cases he
theorem Zo(h:gV E X w0 ρ al fr hp a w)(hd:gY E.nt o=true)(hT:mG P E.T){t:TypeId}{y z:Operand}(ho:o.op=.index t y z)(he:oX E id o (evA E fr) hp=some (x,u)):iD P E X w0 al fr hp a w o id x u:=by
 have hy:=(h.ev y).1;unfold oX effK at he;rw[ho]at he;simp only at he;split at he
 ·rename_i s0 b0 z0 len nP g cs k n uJ gR aUA;have hz:=pE h aUA;split at he
  ·rename_i iN;rw[aIW cs iN]at he;split at he <;> cases he;rename_i v hv;rw[gR]at hy;obtain⟨arr,ha,hr⟩:=hy;obtain⟨d,sO,e,ei,ed,rfl,Zc,aLU,bEM,bEL⟩:=(hT t _ uJ).d;subst aLU;subst bEL;obtain⟨q,Ms,aZH,aZG⟩:=Gk (P:=P) (ρ:=ρ) (hp:=hp) Zc bEM hr hv;refine bY h hd (v:=q) ?_ aZH (by simp[refs,aZG]);unfold execOp;rw[ho];simp only[Instr.index,Sem.run_bind,hz,asIntOf,Sem.run_pure,run_underlying sO,Result.andThen_ok,ha];rw[if_pos iN];simp only[sizeOf,typeInfo,Sem.run_bind,run_program,Result.andThen_ok,Zc,Sem.run_pure,Ms]
  ·cases he
 ·rename_i s0 b0 z0 s k n uJ gR aUA;have hz:=pE h aUA;split at he
  ·rename_i iN;cases he;rw[gR]at hy;obtain⟨ha,_⟩:=hy;obtain⟨d,sO,rfl⟩:=(hT t _ uJ).d;refine bY h hd (v:=.int .u8 (Di s n)) ?_ ⟨rfl,rfl⟩ (by intro i hi;cases hi);unfold execOp;rw[ho];have aTU:n.toNat<s.size:=by omega
   have hs:(if 0<=n then s[n.toNat]? else none)=some s[n.toNat]:=by
    rw[if_pos iN.1];exact getElem?_pos s n.toNat aTU
   have Yx:Di s n=(s[n.toNat].toNat:Int):=by
    unfold Di;rw[getElem?_pos s n.toNat aTU]
   simp only[Instr.index,Sem.run_bind,hz,asIntOf,Sem.run_pure,run_underlying sO,Result.andThen_ok,ha,hs,Yx]
  ·cases he
 ·cases he
end
end AI
namespace AI
open Go Go.RowKit
section
variable {P:Program} {E:Env} {X:Nat->Prop} {w0:Old} {ρ:Nat->Nat} {al:Nat->Prop} {fr:Nat->A} {hp:Nat->Option iM} {a:Act} {w:World} {o:Oper} {id:Nat} {x:A} {u:nZ}
theorem wG{R:Type}{n:Int}{K:Nat->Option R}{r:R}:∀{m j:Nat},splitN n m j K=some r->∃i,j<=i/\i<j+m/\n=(i:Int)/\K i=some r
 |0,_,h=>by cases h
 |m+1,j,h=>by
  unfold splitN at h
  by_cases hc:n=(j:Int)
  ·rw[decide_eq_true hc]at h;exact⟨j,bLW _,by omega,hc,h⟩
  ·rw[decide_eq_false hc]at h;obtain⟨i,h1,h2,h3,h4⟩:=wG (m:=m) (j:=j+1) h;exact⟨i,by omega,by omega,h3,h4⟩
theorem Ys{R:Type}{sh:Bool}{hp:Nat->Option iM}{t:TI}{nP:Nat}{x:A}{n:Int}{K:A->Option R}{r:R}(h:Mo sh hp t nP x n K=some r):idxK hp t nP x n K=some r:=by
 unfold Mo at h;split at h
 ·split at h
  ·obtain⟨i,_,_,hn,h⟩:=wG h;rw[hn];exact h
  ·exact h
 ·exact h
theorem wrap_small{n:Int}(h0:0<=n)(h1:n<=room):i64.wrap n=n:=by
 unfold room at h1;unfold IntKind.wrap;simp only[IntKind.bits,IntKind.signed];have e:n%(2^64:Int)=n:=by omega
 simp only[e];rw[if_neg (by simp;omega)]
theorem run_make(w:World)(t e:TypeId)(i:TypeInfo)(z:Value)(hu:P.underlying t=some (.slice e))(hi:P.info? e=some i)(hz:i.zero=some z)(kl kc:IntKind)(l c:Int)(h0:0<=l)(h1:l<=c)(h2:c<=room)(hb:i.bytes<=8) :
  (Instr.makeSlice t (.int kl l) (.int kc c)).run P w=.ok (.slice (some ⟨w.heap.size,0,none⟩) l.toNat c.toNat) (w.alloc (.cells ((Array.range (c.toNat*i.size)).map (z.cells[·%z.cells.size]!)) e)):=by
 have e1:i64.wrap l=l:=wrap_small h0 (by omega);have e2:i64.wrap c=c:=wrap_small (by omega) h2;have hbc:¬((i.bytes:Int)*c>2^48):=by
  have:(i.bytes:Int)*c<=8*c:=bOG (by omega) (by omega);unfold room at h2;omega
 have aMA:¬((i.bytes:Int)*l>2^48):=by
  have:(i.bytes:Int)*l<=8*l:=bOG (by omega) (by omega);unfold room at h2;omega
 unfold Instr.makeSlice;simp only[Sem.run_bind,run_underlying hu,Result.andThen_ok,asInt,asIntOf,Sem.run_pure,typeInfo,run_program,hi,e1,e2];rw[if_neg (by simp;omega)];have pY:∀w:World,(sizeOf e).run P w=.ok i.size w:=fun w=>by simp[sizeOf,typeInfo,hi]
 have aDF:∀w:World,(zeroValue e).run P w=.ok z w:=fun w=>by simp[zeroValue,typeInfo,hi,hz]
 simp only[Sem.run_bind,run_askRoom,Result.andThen_ok,pY]
 by_cases hc:c.toNat*i.size=0
 ·rw[if_pos hc];have e0:∀(f g:Nat->Value),Array.map f (Array.range 0)=Array.map g (Array.range 0):=fun f g=>by simp[Array.range]
  simp only[Sem.run_bind,Sem.run_pure,Result.andThen_ok,hc];rw[e0 _ (fun x=>z.cells[x%z.cells.size]!)];rfl
 ·rw[if_neg hc];simp only[Sem.run_bind,aDF,Sem.run_pure,Result.andThen_ok];rfl
theorem Jn (h : gV E X w0 ρ al fr hp a w) (hd : gY E.nt o = true) (hT : mG P E.T) (tW : ∀ j, j < 8 → ¬ al (id + j)) {t : TypeId} {y z : Operand} (ho : o.op = .makeSlice t y z) (he : oX E id o (evA E fr) hp = some (x, u)) : iD P E X w0 al fr hp a w o id x u := by
  unfold oX effK at he
  rw [ho] at he
  simp only at he
  split at he
  · rename_i s0 b0 z0 e k1 l k2 c uJ aZP bIK
    have hy := pE h aZP
    have hz := pE h bIK
    have ht := hT t _ uJ
    obtain ⟨d, sO, zX⟩ := ht.d
    have zX : d = .slice e := zX
    subst zX
    split at he
    · rename_i bytes k0 z0' k Iw
      have Ha := hT e _ Iw
      obtain ⟨i, hi, pY, aLZ, zv, aDF, Jh⟩ := Ha.i
      split at he
      · rename_i Hf
        split at he <;> cases he
        rename_i He
        obtain ⟨h0, h1, h2⟩ := He
        have pY : i.size = 1 := pY
        have aLZ : i.bytes = bytes := aLZ
        have eY := run_make (P := P) w t e i zv sO hi aDF k1 k2 l c h0 h1 h2 (by omega)
        obtain ⟨_, _, rfl, rfl⟩ := Hf
        have Jh : zv.cells.toList = [.int k0 0] := Jh
        have aLN : zv.cells.size = 1 := by have : zv.cells.toList.length = 1 := by rw [Jh]; rfl
                                           simpa using this
        have aNT : zv.cells[0]! = .int k0 0 := by
          rw [getElem!_pos zv.cells 0 (by omega)]
          have : zv.cells.toList[0]? = some (.int k0 0) := by rw [Jh]; rfl
          simpa [Array.getElem?_eq_getElem (show 0 < zv.cells.size by omega)] using this
        have h3 := h.alloc (id := id) (al' := lY al id) (tW 0 (by omega)) (fun _ h => .inl h) (oK id) e (.ints k0 (bNZ l.toNat 0)) ((Array.range (c.toNat * i.size)).map (zv.cells[· % zv.cells.size]!)) (by
          refine ⟨by simp [pY]; omega, fun j n hn => ?_⟩
          have hj := aR hn
          simp at hj
          rw [List.getElem?_replicate, if_pos (by omega)] at hn
          cases hn
          have bIV : j < c.toNat := by omega
          simp only [aLN, Nat.mod_one, aNT, pY, bMG]
          simp [bIV])
        refine ⟨_, .slice (some ⟨w.heap.size, 0, none⟩) l.toNat c.toNat, _, .inl ?_, h3.pure hd (x := .v (.one (.buf id l.toNat))) ?_ ?_⟩
        · unfold execOp
          rw [ho]
          simp only [hy, hz, Sem.run_bind, eY, Result.andThen_ok, Sem.run_pure]
        · refine ⟨c.toNat, by rw [bG], by omega, fun blk k' ns hb hk => ?_, fun blk cs hb hk => by rw [bG] at hb; cases hb; cases hk⟩
          rw [bG] at hb
          cases hb
          cases hk
          refine ⟨by simp, by unfold room at h2; unfold maxLen; omega, ?_⟩
          rw [bG, jA (tZ w _)]
          simp [pY]
        · intro i hi
          simp only [refs, refsV, refsL, bMN] at hi
          subst hi
          exact oK i
      · cases he
    · cases he
  · cases he
theorem uB(h:gV E X w0 ρ al fr hp a w){d l:Int}{y:Option Operand}(he:bndA d (y.map (evA E fr))=some l):(y=none/\l=d)\/∃z k,y=some z/\a.eval z=.int k l:=by
 cases y with
 |none=>cases he;exact .inl ⟨rfl,rfl⟩
 |some z =>
  refine .inr ⟨z,?_⟩;have hz:=(h.ev z).1;simp only[bMJ]at he;unfold bndA at he;split at he
  ·cases ‹some _=none›
  ·rename_i k n gR;cases he;have gR:evA E fr z=.v (.one (.s (.sc (.int k l)))):=Option.some.inj gR;rw[gR]at hz;exact⟨k,rfl,hz.1⟩
  ·cases he
theorem run_sliceBound(k:IntKind)(n:Int)(y:Nat)(c:BoundsCode)(h0:0<=n)(h1:n<=y):(Instr.sliceBound (.int k n) y c).run P w=.ok n.toNat w:=by
 unfold Instr.sliceBound;simp only[Sem.run_bind,asIntOf,Sem.run_pure,Result.andThen_ok];rw[if_pos ⟨h0,h1⟩];rfl
theorem Sx(len cap:Nat)(aQP:len<=cap)(lo hi mx:Option Operand)(h:gV E X w0 ρ al fr hp a w)
  {R:Type} {K:Nat->Nat->Option R} {r:R} (he:sliceK len (lo.map (evA E fr)) (hi.map (evA E fr)) (mx.map (evA E fr)) K=some r) :
  ∃l h' m,K l h'=some r/\l<=h'/\h'<=len/\h'<=m/\m<=cap/\(Instr.sliceBounds true len cap (lo.map a.eval) (hi.map a.eval) (mx.map a.eval)).run P w=.ok (l,h',m) w:=by
 unfold sliceK at he;split at he
 ·rename_i l h' hl hh hm;have bIH:mx=none:=by cases mx with
   |none=>rfl
   |some y=>cases hm
  subst bIH;split at he
  ·rename_i hc;obtain⟨c0,c1,c2⟩:=hc;refine⟨l.toNat,h'.toNat,cap,he,by omega,by omega,by omega,bLW _,?_⟩;unfold Instr.sliceBounds;rcases uB h hh with ⟨rfl,rfl⟩ |⟨yh,kh,rfl,aTY⟩
   ·rcases uB h hl with ⟨rfl,rfl⟩ |⟨yl,kl,rfl,aAP⟩
    ·rfl
    ·simp only[bOH,bMJ,Sem.run_bind,Sem.run_pure,Result.andThen_ok,aAP,Option.isSome_none];rw[run_sliceBound kl l len _ c0 (by omega)];rfl
   ·simp only[bOH,bMJ,Sem.run_bind,Sem.run_pure,Result.andThen_ok,aTY];rw[run_sliceBound kh h' cap _ (by omega) (by omega)];simp only[Result.andThen_ok];rcases uB h hl with ⟨rfl,rfl⟩ |⟨yl,kl,rfl,aAP⟩
    ·rfl
    ·simp only[bMJ,aAP,Sem.run_bind];rw[run_sliceBound kl l h'.toNat _ c0 (by omega)];rfl
  ·cases he
 ·rename_i l h' mxa hl hh hm;split at he
  ·rename_i ya m bHD bEE;split at he
   ·rename_i hc;obtain⟨c0,c1,c2,c3⟩:=hc;obtain⟨ym,rfl,km,aZT⟩:∃ym,mx=some ym/\∃km,a.eval ym=.int km m:=by
     rw[<-hm]at bEE;rcases uB h bEE with ⟨rfl,_⟩ |⟨ym,km,rfl,aZT⟩
     ·cases hm
     ·exact⟨ym,rfl,km,aZT⟩
    obtain⟨yh,rfl,kh,aTY⟩:∃yh,hi=some yh/\∃kh,a.eval yh=.int kh h':=by
     rcases uB h hh with ⟨rfl,_⟩ |⟨yh,kh,rfl,aTY⟩
     ·cases bHD
     ·exact⟨yh,rfl,kh,aTY⟩
    refine⟨l.toNat,h'.toNat,m.toNat,he,by omega,by omega,by omega,by omega,?_⟩;unfold Instr.sliceBounds;simp only[bMJ,Sem.run_bind,aZT];rw[run_sliceBound km m cap _ (by omega) (by omega)];simp only[Result.andThen_ok,aTY];rw[run_sliceBound kh h' m.toNat _ (by omega) (by omega)];simp only[Result.andThen_ok];rcases uB h hl with ⟨rfl,rfl⟩ |⟨yl,kl,rfl,aAP⟩
    ·rfl
    ·simp only[bMJ,aAP,Sem.run_bind];rw[run_sliceBound kl l h'.toNat _ c0 (by omega)];rfl
   ·cases he
  ·cases he
 ·cases he
theorem kO{t e:TypeId}{size:Nat}(hu:P.underlying t=some (.slice e))(hs:(sizeOf e).run P w=.ok size w)(A0:Option Addr)(len cap:Nat)(aQP:len<=cap)(lo hi mx:Option Operand)(h:gV E X w0 ρ al fr hp a w)
  {R:Type} {K:Nat->Nat->Option R} {r:R} (he:sliceK len (lo.map (evA E fr)) (hi.map (evA E fr)) (mx.map (evA E fr)) K=some r) :
  ∃l h' m,K l h'=some r/\l<=h'/\h'<=len/\h'<=m/\m<=cap/\(Instr.sliceAt t (.slice A0 len cap) (lo.map a.eval) (hi.map a.eval) (mx.map a.eval)).run P w=.ok (.slice (if m=l then A0 else A0.map (·.add (l*size))) (h'-l) (m-l)) w:=by
 obtain⟨l,h',m,h1,h2,h3,h4,h5,eY⟩:=Sx (P:=P) len cap aQP lo hi mx h he;refine⟨l,h',m,h1,h2,h3,h4,h5,?_⟩;unfold Instr.sliceAt;rw[Sem.run_bind,run_underlying hu,Result.andThen_ok];simp only[Instr.slice,Sem.run_bind,run_underlying hu,Result.andThen_ok,eY,hs,Sem.run_pure]
theorem Zn(h:gV E X w0 ρ al fr hp a w)(hd:gY E.nt o=true)(hT:mG P E.T){t:TypeId}{y:Operand}{lo hi mx:Option Operand}(ho:o.op=.slice t y lo hi mx)(he:oX E id o (evA E fr) hp=some (x,u)):iD P E X w0 al fr hp a w o id x u:=by
 have hy:=h.ev y;unfold oX effK at he;rw[ho]at he;simp only at he;split at he
 ·rename_i s0 b0 z0 e uJ;obtain⟨d,sO,zX⟩:=(hT t _ uJ).d;have zX:d=.slice e:=zX;subst zX;split at he
  ·rename_i bytes zero k Iw;have pY:=(hT e _ Iw).run_sizeOf (w:=w);have hex:∀v,(Instr.sliceAt t (a.eval y) (lo.map a.eval) (hi.map a.eval) (mx.map a.eval)).run P w=.ok v w->(execOp a.eval o).run P w=.ok (.value v) w:=by
    intro v hv;unfold execOp;rw[ho];simp only[Sem.run_bind,hv,Result.andThen_ok,Sem.run_pure]
   split at he
   ·rename_i k' ns gR;split at he
    ·rename_i hk;subst hk;rw[gR]at hy;obtain⟨⟨A0,c,hv,aQP,iE⟩,_⟩:=hy;obtain⟨l,h',m,hK,h1,h2,h3,h4,eY⟩:=kO (P:=P) sO pY A0 ns.length c aQP lo hi mx h he;obtain⟨e1,e2⟩:=Prod.mk.inj (Option.some.inj hK);rw[<-e1,<-e2];rw[<-hv]at eY;have hlen:((ns.take h').drop l).length=h'-l:=by simp;omega
     refine bY h hd (hex _ eY) ⟨_,m-l,by rw[hlen],by rw[hlen];omega,fun i n hn=>?_⟩ (by simp[refs,refsV,refsL]);rw[bMI,List.getElem?_take]at hn;split at hn
     ·rename_i hli;obtain⟨b,off,hA,hb,hx,hc⟩:=iE (l+i) n hn;refine⟨b,off+l,?_,hb,hx,by rw[<-hc];congr 2;omega⟩;rw[aX,hA];simp[jX]
     ·cases hn
    ·cases he
   ·rename_i gR;rw[gR]at hy;have hv:a.eval y=.slice none 0 0:=hy.1.1;obtain⟨l,h',m,hK,h1,h2,h3,h4,eY⟩:=kO (P:=P) sO pY none 0 0 (bLW _) lo hi mx h he;obtain⟨e1,e2⟩:=Prod.mk.inj (Option.some.inj hK);rw[<-e1,<-e2];rw[<-hv]at eY;have hlen:h'-l=([]:List Int).length:=by simp;omega
    exact bY h hd (hex _ eY) ⟨_,m-l,by rw[hlen],by simp,fun i n hn=>by simp at hn⟩ (by simp[refs,refsV,refsL])
   ·rename_i i n gR;rw[gR]at hy;obtain⟨⟨cap,hv,yK,hc,_⟩,pK⟩:=hy;obtain⟨l,h',m,hK,h1,h2,h3,h4,eY⟩:=kO (P:=P) sO pY _ n cap yK lo hi mx h he;obtain⟨e1,e2⟩:=Prod.mk.inj (Option.some.inj hK);rw[<-e1,<-e2];rw[<-hv]at eY;refine bY h hd (hex _ eY) ⟨if m=l then 0 else l,m-l,?_,by omega,fun pJ=>?_,fun h0=>?_,fun blk k' ns hb hk=>?_⟩ pK
    ·congr 1;split <;> simp_all [jX]
    ·rw[aX]
    ·split <;> omega
    ·have:=hc blk k' ns hb hk;exact⟨by omega,by omega,by omega⟩
   ·rename_i i off n gR;rw[gR]at hy;obtain⟨⟨o',cap,hv,yK,hA,hA0,hc⟩,pK⟩:=hy;obtain⟨l,h',m,hK,h1,h2,h3,h4,eY⟩:=kO (P:=P) sO pY _ n cap yK lo hi mx h he;obtain⟨e1,e2⟩:=Prod.mk.inj (Option.some.inj hK);rw[<-e1,<-e2];rw[<-hv]at eY;refine bY h hd (hex _ eY) ⟨if m=l then o' else o'+l,m-l,?_,by omega,fun pJ=>?_,fun h0=>?_,fun blk k' ns hb hk=>?_⟩ pK
    ·congr 1;split <;> simp_all [jX]
    ·rw[aX,hA (by omega)]
    ·have:=hA0 (by omega);split <;> omega
    ·have:=hc blk k' ns hb hk;exact⟨by omega,by omega,by omega⟩
   ·cases he
  ·rename_i te _ Iw;have pY:=(hT e _ Iw).run_sizeOf (w:=w);split at he
   ·rename_i sz n f gR;split at he
    ·rename_i aYY;subst aYY;rw[gR]at hy;obtain⟨⟨A0,cap,hv,yK,aOC⟩,_⟩:=hy;obtain⟨l,h',m,hK,h1,h2,h3,h4,eY⟩:=kO (P:=P) sO pY A0 n cap yK lo hi mx h he;obtain⟨e1,e2⟩:=Prod.mk.inj (Option.some.inj hK);rw[<-e1,<-e2];rw[<-hv]at eY;have hex:(execOp a.eval o).run P w=.ok (.value (.slice (if m=l then A0 else A0.map (·.add (l*te.size))) (h'-l) (m-l))) w:=by
      unfold execOp;rw[ho];simp only[Sem.run_bind,eY,Result.andThen_ok,Sem.run_pure]
     refine bY h hd hex ⟨_,m-l,rfl,by omega,fun i hi=>?_⟩ (by simp[refs,refsV,refsL]);obtain⟨r1,b,off,hA,r2⟩:=aOC (l+i) (by omega);refine⟨r1,b,off+l*te.size,?_,?_⟩
     ·rw[aX,hA];simp[jX]
     ·rw[show off+l*te.size+i*te.size=off+(l+i)*te.size by rw[bMQ];omega];exact r2
    ·cases he
   ·cases he
  ·cases he
 ·cases he
theorem Ao{α:Type}{x y:α}{i:Nat}(h:[x][i]?=some y):i=0/\y=x:=by
 match i with
 |0=>simp at h;exact⟨rfl,h.symm⟩
 |i+1=>simp at h
theorem Jo(h:gV E X w0 ρ al fr hp a w)(hd:gY E.nt o=true)(hT:mG P E.T){t:TypeId}{y z:Operand}(ho:o.op=.indexAddr t y z)(he:oX E id o (evA E fr) hp=some (x,u)):iD P E X w0 al fr hp a w o id x u:=by
 have hy:=h.ev y;unfold oX effK at he;rw[ho]at he;simp only at he;split at he
 ·rename_i ti k n uJ aUA;have hz:=pE h aUA;have ht:=hT t _ uJ;obtain⟨d,sO,zX⟩:=ht.d;split at he
  ·
   rename_i e Qg;rw[Qg]at zX;have zX:d=.slice e:=zX;subst zX;split at he
   ·rename_i te Iw;have pY:=(hT e _ Iw).run_sizeOf (w:=w);have hex:∀b off len cap,a.eval y=.slice (some ⟨b,off,none⟩) len cap->0<=n/\n<(len:Int)->(execOp a.eval o).run P w=.ok (.value (.pointer (some ⟨b,off+n.toNat*te.size,none⟩))) w:=by
     intro b off len cap hv hn;unfold execOp;rw[ho];simp only[hv,hz,Instr.indexAt,Sem.run_bind,asIntOf,Sem.run_pure,Result.andThen_ok,run_underlying sO];rw[if_pos hn];simp only[Sem.run_bind,pY,Result.andThen_ok,Sem.run_pure,jX]
    split at he
    ·cases he
    ·cases he
    ·rename_i xa aAO aTQ;have he:=Ys he;unfold idxK at he;split at he
     ·rename_i k' ns gR;rw[gR]at hy;obtain⟨⟨A0,c,hv,aQP,iE⟩,_⟩:=hy;split at he
      ·rename_i aOO;split at he
       ·rename_i hn;obtain⟨e1,e2⟩:=Prod.mk.inj (Option.some.inj he);rw[<-e1,<-e2];have iN:n.toNat<ns.length:=by omega
        obtain⟨b,off,hA,hb,hx,hc⟩:=iE n.toNat ns[n.toNat] (bMM iN);subst hA;refine bY h hd (hex b off ns.length c hv hn) ⟨b,off+n.toNat*te.size,rfl,fun i s hs=>?_⟩ (by simp[refs,refsV,refsL]);obtain⟨rfl,rfl⟩:=Ao hs;refine⟨hb,hx,_,by rw[aOO,bMG,bMX];exact hc,?_,rfl⟩;simp[bNQ,iN]
       ·cases he
      ·cases he
     ·rename_i i m gR;rw[gR]at hy;obtain⟨⟨cap,hv,yK,hc,_⟩,pK⟩:=hy;split at he
      ·rename_i e' k' ns hb;split at he
       ·rename_i aOO;split at he
        ·rename_i hn;obtain⟨e1,e2⟩:=Prod.mk.inj (Option.some.inj he);rw[<-e1,<-e2];refine bY h hd (hex _ _ m cap hv hn) ⟨by rw[aOO,bLY,bMG],fun blk k1 Sa vP Eh=>?_⟩ pK;have:=(hc blk k1 Sa vP Eh).1;omega
        ·cases he
       ·cases he
      ·rename_i e' cs hb;split at he
       ·rename_i hn;obtain⟨e1,e2⟩:=Prod.mk.inj (Option.some.inj he);rw[<-e1,<-e2];refine bY h hd (hex _ _ m cap hv hn) ?_ pK;show _=_;rw[bLY]
       ·cases he
      ·cases he
     ·rename_i i off m gR;rw[gR]at hy;obtain⟨hy,pK⟩:=hy;obtain⟨A0,cap,hv,yK,hA,hc⟩:=tJ hy;split at he
      ·rename_i e' k' ns hb;split at he
       ·rename_i aOO;split at he
        ·rename_i hn;obtain⟨e1,e2⟩:=Prod.mk.inj (Option.some.inj he);rw[<-e1,<-e2];have hA:=hA (by omega);subst hA;refine bY h hd (hex _ _ m cap hv hn) ⟨by rw[aOO,bMG],fun blk k1 Sa vP Eh=>?_⟩ pK;have:=hc blk k1 Sa vP Eh;omega
        ·cases he
       ·cases he
      ·cases he
     ·rename_i sz m f gR;rw[gR]at hy;obtain⟨⟨A0,c,hv,aQP,iE⟩,_⟩:=hy;split at he
      ·rename_i aOO;split at he
       ·rename_i hn;obtain⟨e1,e2⟩:=Prod.mk.inj (Option.some.inj he);rw[<-e1,<-e2];obtain⟨aQT,b,off,hA,hc⟩:=iE n.toNat (by omega);subst hA;exact bY h hd (hex b off m c hv hn) ⟨b,off+n.toNat*te.size,rfl,by rw[<-aOO];exact hc⟩ (by simp[refs,refsV,refsL])
       ·cases he
      ·cases he
     ·exact absurd ‹_› (aAO _ _)
     ·exact absurd ‹_› (aTQ _ _)
     ·cases he
   ·cases he
  ·
   rename_i len nP g Qg;rw[Qg]at zX;obtain⟨e,ei,ed,rfl,Zc,aLU,bEM,bEL⟩:=zX;have pY:(sizeOf e).run P w=.ok nP w:=by simp[sizeOf,typeInfo,Zc,aLU]
   have hex:∀b off,a.eval y=.pointer (some ⟨b,off,none⟩)->0<=n/\n<(len:Int)->(execOp a.eval o).run P w=.ok (.value (.pointer (some ⟨b,off+n.toNat*nP,none⟩))) w:=by
    intro b off hv hn;unfold execOp;rw[ho];simp only[hv,hz,Instr.indexAt,Sem.run_bind,asIntOf,Sem.run_pure,Result.andThen_ok,run_underlying sO,Instr.sureAddr];rw[if_pos hn];simp only[Sem.run_bind,pY,Result.andThen_ok,Sem.run_pure,jX]
   split at he
   ·rename_i i off gR;rw[gR]at hy;simp only[idxK,Qg]at he;cases hb:bLZ len 8 with
    |true =>
     rw[hb,cond_true]at he;obtain⟨j,_,hj,hn,he⟩:=wG he;obtain⟨e1,e2⟩:=Prod.mk.inj (Option.some.inj he);rw[<-e1,<-e2];have hx:=hex _ _ hy.1 (by omega);rw[hn,Int.toNat_natCast]at hx;exact bY h hd hx rfl hy.2
    |false =>
    rw[hb,cond_false]at he;split at he
    ·rename_i hn;obtain⟨e1,e2⟩:=Prod.mk.inj (Option.some.inj he);rw[<-e1,<-e2];exact bY h hd (hex _ _ hy.1 hn) rfl hy.2
    ·cases he
   ·rename_i k' ns gR;rw[gR]at hy;obtain⟨⟨b,off,hv,hc⟩,_⟩:=hy;simp only[idxK,Qg]at he;split at he
    ·rename_i hl;split at he
     ·rename_i hn;obtain⟨e1,e2⟩:=Prod.mk.inj (Option.some.inj he);rw[<-e1,<-e2];have iN:n.toNat<ns.length:=by omega
      refine bY h hd (hex _ _ hv hn) ⟨b,off+n.toNat*nP,rfl,fun i s hs=>?_⟩ (by simp[refs,refsV,refsL]);obtain⟨rfl,rfl⟩:=Ao hs;have:=hc n.toNat (.sc (.int k' (ns.getD n.toNat 0))) (by simp[tR,bNQ,iN]);rw[hl.2,bMG,bMX];exact this
     ·cases he
    ·cases he
   ·cases he
  ·cases he
 ·cases he
theorem foldMM_sound(op:BinOp)(bt:Value->Value->Sem Value)(aUQ:∀k n m,∀w,(bt (.int k n) (.int k m)).run P w=.ok (.int k (match op with | .gtr=>if m>n then m else n |_=>if m<n then m else n)) w)(h:gV E X w0 ρ al fr hp a w)(k:IntKind):∀(ys:List Operand) (n r:Int),
  foldMM op k n (ys.map (evA E fr))=some r->((ys.map a.eval).foldlM bt (.int k n)).run P w=.ok (.int k r) w
 | [],n,r,he=>by cases he;rfl
 |y :: ys,n,r,he=>by
  simp only[bLV]at he ⊢;unfold foldMM at he;split at he
  ·cases ‹_ :: _=[]›
  ·rename_i n0 k' m rest gR;obtain⟨gR,vO⟩:=List.cons.inj gR;split at he
   ·rename_i hk;subst hk;have hy:=(h.ev y).1;rw[gR]at hy;have hy:a.eval y=.int k m:=hy.1;rw[<-vO]at he;have ih:=foldMM_sound op bt aUQ h k ys _ r he;simp only[List.foldlM_cons,Sem.run_bind,hy,aUQ,Result.andThen_ok];exact ih
   ·cases he
  ·cases he
theorem Tl(h:gV E X w0 ρ al fr hp a w){y:Operand}{n:Nat}(he:lenA (evA E fr y)=some n):∃A0 cap,a.eval y=.slice A0 n cap:=by
 have hy:=(h.ev y).1;unfold lenA at he;split at he
 ·rename_i k ns gR;cases he;rw[gR]at hy;obtain⟨A0,c,hv,_⟩:=hy;exact⟨A0,c,hv⟩
 ·rename_i gR;cases he;rw[gR]at hy;exact⟨none,0,hy.1⟩
 ·rename_i i n' gR;cases he;rw[gR]at hy;obtain⟨cap,hv,_⟩:=hy;exact⟨_,cap,hv⟩
 ·rename_i i off n' gR;cases he;rw[gR]at hy;obtain⟨A0,cap,hv,_⟩:=tJ hy;exact⟨A0,cap,hv⟩
 ·rename_i sz n' f gR;cases he;rw[gR]at hy;obtain⟨A0,cap,hv,_⟩:=hy;exact⟨A0,cap,hv⟩
 ·cases he
theorem qW(h:gV E X w0 ρ al fr hp a w){k:IntKind}{y:Operand}{ns:List Int}(he:intsOf hp k (evA E fr y)=some ns) :
  ∃A0 cap,a.eval y=.slice A0 ns.length cap/\∀(i:Nat) (n:Int),ns[i]?=some n->∃ad,A0=some ad/\w.cell? (ad.add i)=some (.int k n):=by
 have hy:=(h.ev y).1;unfold intsOf at he;split at he
 ·rename_i k' lB gR;split at he <;> cases he;rename_i hk;subst hk;rw[gR]at hy;obtain⟨A0,c,hv,hle,hc⟩:=hy;refine⟨A0,c,hv,fun i n hn=>?_⟩;obtain⟨b,off,hA,_,_,aDY⟩:=hc i n hn;exact⟨_,hA,by rw[jX];exact aDY⟩
 ·rename_i gR;cases he;rw[gR]at hy;exact⟨none,0,hy.1,fun i n hn=>by simp at hn⟩
 ·rename_i i m gR;split at he
  ·rename_i e k' lB hb;split at he <;> cases he;rename_i hk;subst hk;rw[gR]at hy;obtain⟨cap,hv,hle,hc,_⟩:=hy;obtain⟨hm,_⟩:=hc _ k ns hb rfl;subst hm;refine⟨_,cap,hv,fun j n hn=>⟨_,rfl,?_⟩⟩;rw[jX,bLY];exact h.vC hb hn
  ·cases he
 ·rename_i i off m gR;split at he
  ·rename_i e k' lB hb;split at he <;> cases he;rename_i hk;subst hk;rw[gR]at hy;obtain⟨A0,cap,hv,hle,hA,hc⟩:=tJ hy;have hl:=hc _ k lB hb rfl;have hlen:((lB.drop off).take m).length=m:=by simp;omega
   refine⟨A0,cap,by rw[hlen];exact hv,fun j n hn=>?_⟩;have hj:j<m:=by have:=aR hn;omega
   refine⟨_,hA (by omega),?_⟩;rw[jX];rw[bMB hj,bMI]at hn;exact h.vC hb hn
  ·cases he
 ·cases he
theorem jE{b:Builtin}{args:Array Operand}{uI:Array TypeId}(ho:o.op=.call ⟨.builtin b,args,uI⟩){f:Array TypeId->TypeId->Array Value->Sem Value}(hf:∀consts vs,builtin b uI o.type consts vs=(do pure (.value (<-f uI o.type vs)):Sem Next)){v:Value}{w':World}(hr:(f uI o.type (args.map a.eval)).run P w=.ok v w') :
  (execOp a.eval o).run P w=.ok (.value v) w':=by
 unfold execOp;rw[ho];simp only[resolve,Sem.run_bind,Sem.run_pure,Result.andThen_ok,invoke,hf,hr]
theorem aCW(k:IntKind)(n m:Int)(w:World):(Builtin.max2 (.int k n) (.int k m)).run P w=.ok (.int k (if m>n then m else n)) w:=(rfl:_=Result.ok (Value.int k (@ite Int (m>n) (Int.decLt n m) m n)) w).trans (by congr)
theorem aCV(k:IntKind)(n m:Int)(w:World):(Builtin.min2 (.int k n) (.int k m)).run P w=.ok (.int k (if m<n then m else n)) w:=(rfl:_=Result.ok (Value.int k (@ite Int (m<n) (Int.decLt m n) m n)) w).trans (by congr)
theorem aJO(h:gV E X w0 ρ al fr hp a w)(hd:gY E.nt o=true)(hT:mG P E.T){args:Array Operand}{uI:Array TypeId}(ho:o.op=.call ⟨.builtin .len,args,uI⟩)(he:oX E id o (evA E fr) hp=some (x,u)):iD P E X w0 al fr hp a w o id x u:=by
 obtain⟨args⟩:=args;obtain⟨uI⟩:=uI;unfold oX effK at he;rw[ho]at he;simp only[builtinK]at he
 match args,uI,he with
 | [y],[t],he =>
  simp only[bLV,bMO]at he;split at he
  ·rename_i s0 b0 z0 e n uJ hlen;cases he;obtain⟨d,sO,zX⟩:=(hT t _ uJ).d;have zX:d=.slice e:=zX;subst zX;obtain⟨A0,cap,hv⟩:=Tl h hlen;refine bY h hd (v:=.int .i64 n) (jE ho (f:=Builtin.len_) (fun _ _=>rfl) ?_) ⟨rfl,rfl⟩ (by simp[kQ]);simp[Builtin.len_,run_underlying sO,hv,goInt]
  ·rename_i s0 b0 z0 n nP g uJ;cases he;obtain⟨d,sO,e,ei,ed,rfl,_⟩:=(hT t _ uJ).d;refine bY h hd (v:=.int .i64 n) (jE ho (f:=Builtin.len_) (fun _ _=>rfl) ?_) ⟨rfl,rfl⟩ (by simp[kQ]);simp[Builtin.len_,run_underlying sO,goInt]
  ·cases he
 | [],_,he=>simp at he
 |_ :: _ :: _,_,he=>simp at he
 | [_],[],he=>simp at he
 | [_],_ :: _ :: _,he=>simp at he
theorem Hk(h:gV E X w0 ρ al fr hp a w)(hd:gY E.nt o=true){b:Builtin}(hb:b=.max\/b=.min){args:Array Operand}{uI:Array TypeId}(ho:o.op=.call ⟨.builtin b,args,uI⟩)(he:oX E id o (evA E fr) hp=some (x,u)):iD P E X w0 al fr hp a w o id x u:=by
 obtain⟨args⟩:=args;unfold oX effK at he;rw[ho]at he;simp only at he
 match args,he with
 | [],he=>rcases hb with rfl |rfl <;> simp[builtinK]at he
 |y :: ys,he =>
  simp only[bLV]at he;have hy:=(h.ev y).1;rcases hb with rfl |rfl
  ·unfold builtinK at he;split at he <;> first | (cases he;done) | (simp_all;done) |skip
   rename_i b k n rest vP gR;obtain⟨gR,vO⟩:=List.cons.inj gR;rw[gR]at hy;have hy:a.eval y=.int k n:=hy.1;split at he <;> cases he;rename_i m hm;rw[<-vO]at hm;have hr:=foldMM_sound (P:=P) .gtr Builtin.max2 (fun k n m w=>aCW k n m w) h k ys n m hm;refine bY h hd (v:=.int k m) (jE ho (f:=Builtin.max_) (fun _ _=>rfl) ?_) ⟨rfl,rfl⟩ (by simp[kQ]);unfold Builtin.max_;simp only[bMR,bLV,hy];exact hr
  ·unfold builtinK at he;split at he <;> first | (cases he;done) | (simp_all;done) |skip
   rename_i b k n rest vP gR;obtain⟨gR,vO⟩:=List.cons.inj gR;rw[gR]at hy;have hy:a.eval y=.int k n:=hy.1;split at he <;> cases he;rename_i m hm;rw[<-vO]at hm;have hr:=foldMM_sound (P:=P) .lss Builtin.min2 (fun k n m w=>aCV k n m w) h k ys n m hm;refine bY h hd (v:=.int k m) (jE ho (f:=Builtin.min_) (fun _ _=>rfl) ?_) ⟨rfl,rfl⟩ (by simp[kQ]);unfold Builtin.min_;simp only[bMR,bLV,hy];exact hr
end
end AI
namespace AI
open Go Go.RowKit
section
variable {P:Program} {E:Env} {X:Nat->Prop} {w0:Old} {ρ:Nat->Nat} {al:Nat->Prop} {fr:Nat->A} {hp:Nat->Option iM} {a:Act} {w:World} {o:Oper} {id:Nat} {x:A} {u:nZ}
def eM(k:IntKind)(ns:List Int):List Value:=ns.map fun n=>.int k n
theorem Dn(k:IntKind)(ns:List Int):∀v∈eM k ns,v.oneCell'=true:=by
 intro v hv;obtain⟨n,_,rfl⟩:=List.mem_map.1 hv;rfl
theorem uA{w w':World}{row:Option Nat}(hg:w.grownBy w' row){k:Nat}(hk:k<w.heap.size)(Dp:row≠some k):w'.heap[k]?=w.heap[k]?:=hg.block k hk (fun e=>Dp e.symm)
theorem gV.Ri(h:gV E X w0 ρ al fr hp a w){i:Nat}{e:TypeId}{c c2:rI}(hb:hp i=some ⟨e,c⟩)(Eg:E.n0<=i)(tW:¬al id){g:Nat}{lV:Array Value}{w':World}(hg:w.grownBy w' (some (ρ i)))
  (hw:w'.heap[g]?=some (.cells lV e (0,0))) (yP:g=ρ i\/w.heap.size<=g) (hc:∀X',fV (XO X ρ hp) w X' w'->vH X' w' c2 lV) :
  gV E X w0 (xQ ρ id g) (lY al id) fr (applyUps [(i,none),(id,some ⟨e,c2⟩)] hp) a w':=by
 have hi:=h.alh i _ hb;have Dp:i≠id:=fun e=>tW (e▸hi)
 obtain⟨Hg,arr,Zb,_⟩:=h.blk i _ hb;have Qh:∀j,applyUps [(i,none),(id,some ⟨e,c2⟩)] hp j=if j=id then some ⟨e,c2⟩else if j=i then none else hp j:=by
  intro j;simp only[applyUps]
  by_cases h1:j=id
  ·subst h1;rw[bG,if_pos rfl]
  ·rw[eG _ _ h1,if_neg h1]
   by_cases h2:j=i
   ·subst h2;rw[bG,if_pos rfl]
   ·rw[eG _ _ h2,if_neg h2]
 have hold:∀j b,applyUps [(i,none),(id,some ⟨e,c2⟩)] hp j=some b->j≠id->j≠i/\hp j=some b:=by
  intro j b hj Dp;rw[Qh,if_neg Dp]at hj;split at hj
  ·cases hj
  ·exact⟨‹_›,hj⟩
 have aIY:∀j b,hp j=some b->j≠i->ρ j≠ρ i:=fun j b hj Dp e=>Dp (h.inj j i b _ hj hb e)
 have bAR:Kept w0 w w':=⟨hg.os,hg.tape,hg.output,hg.size,fun k hk=>uA hg (by have:=h.below.size;have:=Old.Po hk;omega) (fun e=>by cases e;exact hk Hg.Ee),fun k hk=>uC (uA hg (by have:=h.below.size;have:=w0.aSA k hk;omega) (fun e=>by cases e;have:=Hg.new Eg;have:=w0.aSA _ hk;omega))⟩;have hl:fV (XO X ρ hp) w (XO X (xQ ρ id g) (applyUps [(i,none),(id,some ⟨e,c2⟩)] hp)) w':=by
  refine⟨hg.size,fun b bJW hx=>⟨uA hg bJW (fun e=>hx (.inr ⟨i,_,hb,by cases e;rfl⟩)),fun ho=>?_⟩⟩;rcases ho with ho |⟨j,bl,h1,h2⟩
  ·exact hx (.inl ho)
  ·by_cases hj:j=id
   ·subst hj;rw[bG]at h2;rcases yP with yP |yP
    ·exact hx (.inr ⟨i,_,hb,by omega⟩)
    ·omega
   ·rw[eG _ _ hj]at h2;exact hx (.inr ⟨j,bl,(hold j bl h1 hj).2,h2⟩)
 refine h.change hl bAR ?_ ?_ ?_ (fun _ h=>.inl h) ?_
 ·intro j hj;have Tt:j≠id:=fun e=>tW (e▸hj)
  refine⟨eG _ _ Tt,fun b' vQ=>?_⟩;obtain⟨h1,h2⟩:=hold j b' vQ Tt;refine⟨b',h2,sameShape.refl _,?_⟩;unfold jQ;rw[uA hg (h.gX h2) (fun e=>aIY j b' h2 h1 (Option.some.inj e).symm)]
 ·intro j b hj
  by_cases Tt:j=id
  ·subst Tt;rw[Qh,if_pos rfl]at hj;cases hj;rw[bG];exact⟨.inl (yP.elim (fun e=>e▸Hg.new Eg) (fun e=>bMS h.below.size e)),lV,hw,hc _ hl⟩
  ·obtain⟨h1,h2⟩:=hold j b hj Tt;rw[eG _ _ Tt];exact⟨(h.blk j b h2).1,(h.blk j b h2).2.later hl (uA hg (h.gX h2) (fun e=>aIY j b h2 h1 (Option.some.inj e).symm))⟩
 ·intro j j' b b' h1 h2 e
  by_cases hj:j=id
  ·by_cases aOI:j'=id
   ·rw[hj,aOI]
   ·subst hj;obtain⟨h3,h4⟩:=hold j' b' h2 aOI;rw[bG,eG _ _ aOI]at e;rcases yP with yP |yP
    ·exact absurd (e.symm.trans yP) (aIY j' b' h4 h3)
    ·have:=h.gX h4;omega
  ·obtain⟨h5,h6⟩:=hold j b h1 hj
   by_cases aOI:j'=id
   ·subst aOI;rw[bG,eG _ _ hj]at e;rcases yP with yP |yP
    ·exact absurd (e.trans yP) (aIY j b h6 h5)
    ·have:=h.gX h6;omega
   ·obtain⟨h3,h4⟩:=hold j' b' h2 aOI;rw[eG _ _ hj,eG _ _ aOI]at e;exact h.inj j j' b b' h6 h4 e
 ·intro j b hj
  by_cases Tt:j=id
  ·subst Tt;exact oK j
  ·exact .inl (h.alh j b (hold j b hj Tt).2)
theorem Jt{arr:Array Value}{k:IntKind}{ns:List Int}(h:arr.toList.take ns.length=eM k ns):∀(j:Nat) (n:Int),ns[j]?=some n->arr[j]?=some (Value.int k n):=by
 intro j n hn;have hj:=aR hn;have:(eM k ns)[j]?=some (.int k n):=by simp[eM,hn]
 rw[<-h,bMB hj]at this;simpa using this
theorem Ja{arr:Array Value}{k:IntKind}{ns:List Int}(h:∀(j:Nat) (n:Int),ns[j]?=some n->arr[j]?=some (Value.int k n)):arr.toList.take ns.length=eM k ns:=by
 apply List.ext_getElem?;intro j
 by_cases hj:j<ns.length
 ·rw[bMB hj];have:=h j ns[j] (bMM hj);simp only[eM,bMA,bMM hj,bMJ];simpa using this
 ·rw[bNS (by simp;omega),bNS (by simp[eM];omega)]
theorem mY(z:Array Value)(n:Nat):(Builtin.zeroCells z n).size=n*z.size:=by simp[Builtin.zeroCells]
theorem Gz(k:IntKind)(ns ms:List Int):eM k ns ++ eM k ms=eM k (ns ++ ms):=by simp[eM]
theorem vL{t e:TypeId}{ie:TypeInfo}{zv:Value}(ty:TypeId)(sO:P.underlying t=some (.slice e))(hi:P.info? e=some ie)(aDF:ie.zero=some zv)(Wx:zv.cells.size=ie.size)
  {g cap n m:Nat} {arr:Array Value} {news:List Value} (Zb:w.heap[g]?=some (.cells arr e (0,0))) (yK:n<=cap) (bAL:cap<=maxLen) (bEP:cap*ie.size<=arr.size)
  (ad:Addr) (c0:Nat) (hl:news.length=m*ie.size) (Qd:∀(j:Nat) u,news[j]?=some u->w.cell? (ad.add j)=some u) (Mt:∀v∈news,v.oneCell'=true) (tT:n+m<=maxLen) (Hf:(n+m)*ie.bytes<=140737488355328) :
  ∃g' Ju lV w',(Builtin.append_ #[t,t] ty #[.slice (some ⟨g,0,none⟩) n cap,.slice (some ad) m c0]).run P w=.ok (.slice (some ⟨g',0,none⟩) (n+m) Ju) w' /\
   w.grownBy w' (some g)/\w'.heap[g']?=some (.cells lV e (0,0))/\(g'=g\/w.heap.size<=g')/\Ju*ie.size<=lV.size/\n+m<=Ju/\Ju<=maxLen/\lV.toList.take ((n+m)*ie.size)=arr.toList.take (n*ie.size) ++ news:=by
 have h1:n*ie.size<=cap*ie.size:=bNJ _ yK;have h2:(arr.toList.take (n*ie.size)).length=n*ie.size:=by simp;omega
 have h3:(arr.toList.take (n*ie.size) ++ news).length=(n+m)*ie.size:=by rw[bMZ,h2,hl,bMQ]
 by_cases hr:n+m<=cap
 ·have h4:(n+m)*ie.size<=cap*ie.size:=bNJ _ hr;have h5:n*ie.size+news.length=(n+m)*ie.size:=by rw[hl,bMQ]
  have eY:=run_append_room (P:=P) w t ty e ie sO hi g n cap arr Zb ad m c0 _ hl Qd Mt hr (by omega);refine⟨g,cap,_,_,eY,⟨rfl,rfl,rfl,by simp,fun k _ hk=>setRow_other w g k _ (fun e=>hk (by rw[e]))⟩,setRow_heap w g arr _ e _ Zb,.inl rfl,?_,hr,bAL,?_⟩
  ·simp only[bNK,bMZ,List.length_drop,h2,h5,Array.length_toList];omega
  ·rw[<-h3];exact bNL
 ·have eY:=run_append_grow (P:=P) w t ty e ie zv sO hi aDF ⟨g,0,none⟩ n cap _ h2 (fun j v hj=>by
   have Za:=aR hj;rw[bMB (by omega)]at hj;rw[jX,bLY,cell_of_row w g j arr e (0,0) Zb];simpa using hj) ad m c0 _ hl Qd (by omega) (by unfold maxLen at tT;omega) (growslice_fits (by omega) Hf)
  have yP:=grownCap_ge w (n+m) cap e;have Mw:grownCap w (n+m) cap e<=maxLen:=grownCap_le_maxLen w _ _ e tT;refine⟨w.heap.size,_,_,_,eY,⟨rfl,rfl,rfl,by simp,fun k hk _=>tY w.drew _ hk⟩,heap_alloc_new w.drew _,.inr (bLW _),?_,yP,Mw,?_⟩
  ·simp only[Array.size_append,bNK,mY,Wx,h2,hl];rw[<-bMQ,<-bMQ];exact bNJ _ (by omega)
  ·simp only[Array.toList_append];rw[<-h3];exact bNL
theorem gV.drew(h:gV E X w0 ρ al fr hp a w):gV E X w0 ρ al fr hp a w.drew :=
 h.change ⟨bLW _,fun _ _ hx=>⟨rfl,hx⟩⟩ ⟨rfl,rfl,rfl,bLW _,fun _ _=>rfl,fun _ _=>rfl⟩
  (fun _ _=>⟨rfl,fun b' vQ=>⟨b',vQ,sameShape.refl _,rfl⟩⟩) (fun id b hb=>⟨(h.blk id b hb).1,(h.blk id b hb).2.later ⟨bLW _,fun _ _ hx=>⟨rfl,hx⟩⟩ rfl⟩) h.inj (fun _ h=>h) h.alh
theorem vH.front{Y:Nat->Prop}{cs:List S}{arr:Array Value}(h:vH Y w (.cells cs) arr):gF Y w cs (arr.toList.take cs.length) :=
 ⟨by have:=h.1;simp;omega,fun i s u hs hu=>by
  obtain⟨u',Mq,hr⟩:=h.2 i s hs;rw[bMB (aR hs)]at hu;have:u=u':=by simp at hu;rw[hu]at Mq;exact Option.some.inj Mq
  exact this▸hr⟩
theorem vH.Pp{Y:Nat->Prop}{cs:List S}{arr:Array Value}(h:gF Y w cs (arr.toList.take cs.length)):vH Y w (.cells cs) arr :=
 ⟨by have:=h.1;simp at this;omega,fun i s hs=>by
  have iN:=aR hs;obtain⟨u,hu⟩:=aY (l:=arr.toList.take cs.length) (i:=i) (by rw[<-h.1];exact iN);refine⟨u,?_,h.2 i s u hs hu⟩;rw[bMB iN]at hu;simpa using hu⟩
theorem gF.append{Y:Nat->Prop}{cs ds:List S}{vs us:List Value}(h:gF Y w cs vs)(h':gF Y w ds us):gF Y w (cs ++ ds) (vs ++ us) :=
 ⟨by simp[h.1,h'.1],fun i s u hs hu=>by
  by_cases hi:i<cs.length
  ·rw[bNH hi]at hs;rw[bNH (by rw[<-h.1];exact hi)]at hu;exact h.2 i s u hs hu
  ·rw[bNI (by omega)]at hs;rw[bNI (by rw[<-h.1];omega),<-h.1]at hu;exact h'.2 _ s u hs hu⟩
theorem Ng(h:gV E X w0 ρ al fr hp a w)(hd:gY E.nt o=true)(tW:∀j,j<8->¬al (id+j)){t e:TypeId}{te:TI}(sO:P.underlying t=some (.slice e))(Iw:xF P e te){y z:Operand}(ho:o.op=.call ⟨.builtin .append,#[y,z],#[t,t]⟩)
  (he:nF E.n0 id e te (evA E fr y) (evA E fr z) hp (fun a u=>some (a,u))=some (x,u)):iD P E X w0 al fr hp a w o id x u:=by
 obtain⟨ie,hi,pY,aLZ,zv,aDF,Jh⟩:=Iw.i;have Wx:zv.cells.size=ie.size:=by
  have h1:=Iw.zl;rw[<-Jh]at h1;rw[pY,<-h1];simp
 have qA:∀n,∀i∈refs (.v (.one (.buf id n))),lY al id i:=by
  intro n i hi;simp only[refs,refsV,refsL,bMN]at hi;subst hi;exact oK i
 have hy:=(h.ev y).1;have hz:=(h.ev z).1;unfold nF at he;split at he
 ·rename_i j m bAA;rw[bAA]at hz;obtain⟨aVJ,aYQ,_,_,_⟩:=hz;split at he
  ·rename_i ej new bJX;obtain⟨_,Nr,bJG,bAN⟩:=h.blk j _ bJX;split at he
   ·rename_i hm;obtain⟨aQO,aTS⟩:=hm;have aOM:=bAN.front;have aZQ:(Nr.toList.take new.length).length=m*ie.size:=by rw[<-aOM.1,aTS,pY]
    have Qd:∀(k:Nat) v,(Nr.toList.take new.length)[k]?=some v->w.cell? ((⟨ρ j,0,none⟩:Addr).add k)=some v:=by
     intro k v hk;have aOH:=aR hk;rw[bMB (by rw[<-aOM.1]at aOH;exact aOH)]at hk;rw[jX,bLY,cell_of_row w (ρ j) k Nr _ (0,0) bJG];simpa using hk
    have Mt:∀v∈Nr.toList.take new.length,v.oneCell'=true:=by
     intro v hv;obtain⟨k,hk⟩:=bMU hv;obtain⟨s,hs⟩:=aY (l:=new) (i:=k) (by rw[aOM.1];exact aR hk);exact(aOM.2 k s v hs hk).one
    split at he
    ·
     rename_i i n aON;rw[aON]at hy;obtain⟨cap,hv,yK,_,aLY⟩:=hy;split at he
     ·rename_i e' cs bAQ;split at he
      ·rename_i hk;obtain⟨rfl,Eg,hn,aAS,vP,aJF⟩:=hk;obtain⟨e1,e2⟩:=Prod.mk.inj (Option.some.inj he);rw[<-e1,<-e2];obtain⟨sz,h5,h6,h7⟩:=aLY _ cs bAQ rfl;have bHS:sz=ie.size:=by rw[pY];exact Nat.eq_of_mul_eq_mul_left hn (by rw[<-h5,aAS])
       subst bHS;obtain⟨_,arr,Zb,bJU⟩:=h.blk i _ bAQ;rw[jA Zb]at h6;have aWS:=bJU.front;obtain⟨g',Ju,lV,w',eY,hg,aUJ,aOL,nY,Yz,Mw,aWK⟩:=vL (P:=P) o.type sO hi aDF Wx Zb yK h7 h6 ⟨ρ j,0,none⟩ aVJ aZQ Qd Mt (by unfold maxLen;omega) (by rw[aLZ];omega);have hlen:(cs ++ new).length=(n+m)*ie.size:=by rw[bMZ,aAS,aTS,pY,bMQ]
       have h1:=h.Ri (id:=id) (c2:=.cells (cs ++ new)) bAQ Eg (tW 0 (by omega)) hg aUJ aOL (fun X' hl=>vH.Pp (by
        rw[hlen,aWK];refine gF.append (gF.later hl ?_) (gF.later hl aOM);rw[h5]at aWS;exact aWS))
       refine⟨_,.slice (some ⟨g',0,none⟩) (n+m) Ju,w',.inl (jE ho (f:=Builtin.append_) (fun _ _=>rfl) ?_),h1.pure hd (x:=.v (.one (.buf id (n+m)))) ?_ (qA _)⟩
       ·simp only[bMR,bLV,bMO,hv,aYQ];exact eY
       ·refine⟨Ju,by rw[bG],Yz,fun blk k1 Sa Zf Eh=>?_,fun blk bLK Zf Eh=>?_⟩
        ·simp only[applyUps]at Zf;rw[bG]at Zf;cases Zf;cases Eh
        ·simp only[applyUps]at Zf;rw[bG]at Zf;cases Zf;cases Eh;exact⟨ie.size,hlen,by rw[bG,jA aUJ];exact nY,Mw⟩
      ·cases he
     ·cases he
    ·
     rename_i aON;rw[aON]at hy;have hv:a.eval y=.slice none 0 0:=hy.1;split at he
     ·rename_i hk;obtain⟨vP,aJF⟩:=hk;obtain⟨e1,e2⟩:=Prod.mk.inj (Option.some.inj he);rw[<-e1,<-e2];have eY:=run_append_nil (P:=P) w t o.type e ie zv sO hi aDF ⟨ρ j,0,none⟩ m aVJ _ aZQ Qd aQO (by omega) (by rw[aLZ];omega);have yP:=grownCap_ge w m 0 e;have Mw:grownCap w m 0 e<=maxLen:=grownCap_le_maxLen w _ _ e (by unfold maxLen;omega);have aTC:((Nr.toList.take new.length).toArray ++ Builtin.zeroCells zv.cells (grownCap w m 0 e-m)).size=grownCap w m 0 e*ie.size:=by
       simp only[Array.size_append,bNK,mY,Wx,aZQ];rw[<-bMQ];congr 1;omega
      have h1:=h.drew.alloc (id:=id) (al':=lY al id) (tW 0 (by omega)) (fun _ h=>.inl h) (oK id) e (.cells new) ((Nr.toList.take new.length).toArray ++ Builtin.zeroCells zv.cells (grownCap w m 0 e-m)) (by
       refine vH.Pp ?_;have e3:((Nr.toList.take new.length).toArray ++ Builtin.zeroCells zv.cells (grownCap w m 0 e-m)).toList.take new.length=Nr.toList.take new.length:=by
        have hq:=aOM.1;generalize Nr.toList.take new.length=L at hq ⊢;rw[Array.toList_append,hq];exact bNL
       rw[e3];exact gF.later ⟨bLW _,fun _ _ hx=>⟨rfl,hx⟩⟩ aOM)
      refine⟨_,.slice (some ⟨w.heap.size,0,none⟩) m (grownCap w m 0 e),_,.inl (jE ho (f:=Builtin.append_) (fun _ _=>rfl) ?_),h1.pure hd (x:=.v (.one (.buf id m))) ?_ (qA _)⟩
      ·simp only[bMR,bLV,bMO,hv,aYQ];exact eY
      ·refine⟨_,by rw[bG];rfl,yP,fun blk k1 Sa Zf Eh=>?_,fun blk bLK Zf Eh=>?_⟩
       ·rw[bG]at Zf;cases Zf;cases Eh
       ·rw[bG]at Zf;cases Zf;cases Eh;refine⟨ie.size,by rw[aTS,pY],?_,Mw⟩;rw[bG,jA (tZ w.drew _),aTC];exact bLW _
     ·cases he
    ·cases he
   ·cases he
  ·cases he
 ·cases he
theorem Ud(h:gV E X w0 ρ al fr hp a w)(hd:gY E.nt o=true)(hT:mG P E.T)(tW:∀j,j<8->¬al (id+j)){args:Array Operand}{uI:Array TypeId}(ho:o.op=.call ⟨.builtin .append,args,uI⟩)(he:oX E id o (evA E fr) hp=some (x,u)):iD P E X w0 al fr hp a w o id x u:=by
 obtain⟨args⟩:=args;obtain⟨uI⟩:=uI;unfold oX effK at he;rw[ho]at he;simp only[builtinK]at he
 match args,uI,he with
 | [y,z],[t,t'],he =>
  simp only[bLV,bMO]at he;split at he
  ·rename_i bHR;subst bHR;split at he
   ·rename_i s0 b0 z0 e uJ;obtain⟨d,sO,zX⟩:=(hT t _ uJ).d;have zX:d=.slice e:=zX;subst zX;split at he
    ·rename_i bytes zero k Iw;have Ha:=hT e _ Iw;obtain⟨ie,hi,pY,aLZ,zv,aDF,Jh⟩:=Ha.i;have pY:ie.size=1:=pY;have aLZ:ie.bytes=bytes:=aLZ;have Wx:zv.cells.size=1:=by
      have h1:zero.length=1:=Ha.zl;have h2:zv.cells.toList=zero:=Jh;rw[<-h2]at h1;simpa using h1
     have qA:∀i∈refs (.v (.one (.buf id 0))),lY al id i:=by
      intro i hi;simp only[refs,refsV,refsL,bMN]at hi;subst hi;exact oK i
     split at he
     ·rename_i hb8;have hy:=(h.ev y).1;split at he
      ·
       rename_i i n ms gR aIZ;rw[gR]at hy;obtain⟨cap,hv,yK,hc,_⟩:=hy;split at he
       ·rename_i e' k' ns hb;cases Cm:bMH i E.n0 with
        |true=>rw[Cm]at he;cases he
        |false =>
        rw[Cm]at he;simp only[cond_false]at he;have Cm:E.n0<=i:=by
         have:¬i<E.n0:=fun h=>by
          have h2:bMH i E.n0=true:=by rw[Nat.blt_eq];exact h
          rw[h2]at Cm;cases Cm
         omega
        split at he
        ·rename_i bJP;obtain⟨rfl,rfl⟩:=bJP;split at he
         ·rename_i tT;obtain⟨pJ,tT⟩:=tT;obtain⟨e1,e2⟩:=Prod.mk.inj (Option.some.inj he);rw[<-e1,<-e2];obtain⟨hn,bAL,bEP⟩:=hc _ k ns hb rfl;subst hn;obtain⟨Hg,arr,Zb,aAS,bAO⟩:=h.blk i _ hb;rw[jA Zb]at bEP;obtain⟨A0,c0,Yw,iE⟩:=qW h aIZ;obtain⟨ad,hA,_⟩:=iE 0 ms[0] (bMM pJ);subst hA;obtain⟨g',Ju,lV,w',eY,hg,aUJ,aOL,nY,Yz,Mw,aWK⟩:=vL (P:=P) (m:=ms.length) (news:=eM k ms) o.type sO hi aDF (by omega) Zb yK bAL (by rw[pY];omega) ad c0 (by simp[eM,pY]) (fun j v hj=>by
           simp only[eM,bMA,bNA]at hj;obtain⟨m,hm,rfl⟩:=hj;obtain⟨bFN,e1,e2⟩:=iE j m hm;cases e1;exact e2) (Dn k ms) (by unfold maxLen;unfold room at tT;omega) (by
           have:(ns.length+ms.length)*ie.bytes<=(ns.length+ms.length)*8:=bOK _ (by omega);unfold room at tT;omega)
          rw[pY,bMG]at nY;rw[pY,bMG,bMG,Ja bAO,Gz,<-bMZ]at aWK;have h1:=h.Ri (id:=id) (c2:=.ints k (ns ++ ms)) hb Cm (tW 0 (by omega)) hg aUJ aOL (fun _ _=>⟨by simp;omega,Jt aWK⟩);refine⟨_,.slice (some ⟨g',0,none⟩) (ns.length+ms.length) Ju,w',.inl (jE ho (f:=Builtin.append_) (fun _ _=>rfl) ?_),h1.pure hd (x:=.v (.one (.buf id (ns.length+ms.length)))) ?_ qA⟩
          ·simp only[bMR,bLV,bMO,hv,Yw];exact eY
          ·refine⟨Ju,by rw[bG],Yz,fun blk k1 Sa vP Eh=>?_,fun blk cs vP Eh=>by simp only[applyUps]at vP;rw[bG]at vP;cases vP;cases Eh⟩;simp only[applyUps]at vP;rw[bG]at vP;cases vP;cases Eh;refine⟨by simp,Mw,?_⟩;rw[bG,jA aUJ];exact nY
         ·cases he
        ·cases he
       ·cases he
      ·
       rename_i ms gR aIZ;rw[gR]at hy;have hv:a.eval y=.slice none 0 0:=hy.1;split at he
       ·rename_i tT;obtain⟨pJ,tT⟩:=tT;obtain⟨e1,e2⟩:=Prod.mk.inj (Option.some.inj he);rw[<-e1,<-e2];obtain⟨A0,c0,Yw,iE⟩:=qW h aIZ;obtain⟨ad,hA,_⟩:=iE 0 ms[0] (bMM pJ);subst hA;have hl:(eM k ms).length=ms.length*ie.size:=by simp[eM,pY]
        have Hf:ms.length*ie.bytes<=281474976710656:=by
         have:ms.length*ie.bytes<=ms.length*8:=bOK _ (by omega);unfold room at tT;omega
        have eY:=run_append_nil (P:=P) w t o.type e ie zv sO hi aDF ad ms.length c0 (eM k ms) hl (fun j v hj=>by
         simp only[eM,bMA,bNA]at hj;obtain⟨m,hm,rfl⟩:=hj;obtain⟨bFN,e1,e2⟩:=iE j m hm;cases e1;exact e2) pJ (by unfold room at tT;omega) Hf
        have yP:=grownCap_ge w ms.length 0 e;have Mw:grownCap w ms.length 0 e<=maxLen:=grownCap_le_maxLen w _ _ e (by unfold maxLen;unfold room at tT;omega);have h1:=h.drew.alloc (id:=id) (al':=lY al id) (tW 0 (by omega)) (fun _ h=>.inl h) (oK id) e (.ints k ms) ((eM k ms).toArray ++ Builtin.zeroCells zv.cells (grownCap w ms.length 0 e-ms.length)) (by
         refine⟨by simp[eM,mY,Wx,bMG],fun j n hn=>?_⟩;have hj:=aR hn;rw[Array.getElem?_append_left (by simp[eM];omega)];simp[eM,hn])
        refine⟨_,.slice (some ⟨w.heap.size,0,none⟩) ms.length (grownCap w ms.length 0 e),_,.inl (jE ho (f:=Builtin.append_) (fun _ _=>rfl) ?_),h1.pure hd (x:=.v (.one (.buf id ms.length))) ?_ qA⟩
        ·simp only[bMR,bLV,bMO,hv,Yw];exact eY
        ·refine⟨_,by rw[bG];rfl,yP,fun blk k1 Sa vP Eh=>?_,fun blk cs vP Eh=>by rw[bG]at vP;cases vP;cases Eh⟩;rw[bG]at vP;cases vP;cases Eh;refine⟨rfl,Mw,?_⟩;rw[bG,jA (tZ w.drew _)];simp only[Array.size_append,bNK,mY,Wx,bMG];simp[eM];omega
       ·cases he
      ·cases he
     ·cases he
    ·rename_i te _ Iw;exact Ng h hd tW sO (hT e _ Iw) ho he
    ·cases he
   ·cases he
  ·cases he
 | [],_,he=>simp at he
 | [_],_,he=>simp at he
 |_ :: _ :: _ :: _,_,he=>simp at he
 | [_,_],[],he=>simp at he
 | [_,_],[_],he=>simp at he
 | [_,_],_ :: _ :: _ :: _,he=>simp at he
theorem Oy{α:Type}(f:Nat->α)(i:Nat)(b:α)(h:f i=b):xQ f i b=f:=by
 funext j
 by_cases hj:j=i
 ·subst hj;rw[bG,h]
 ·rw[eG _ _ hj]
theorem Kt(h:gV E X w0 ρ al fr hp a w){t t' e:TypeId}{bytes:Nat}{zero:List Value}{k:IntKind}(ty:TypeId)(sO:P.underlying t=some (.slice e))(Iw:xF P e ⟨1,bytes,zero,.int k⟩)
  {i off n dcap:Nat} {e':TypeId} {ns ms:List Int} (hb:hp i=some ⟨e',.ints k ns⟩) (hle:off+n<=ns.length) (Ad:Option Addr) (hA:0<n->Ad=some ⟨ρ i,off,none⟩)
  (As:Option Addr) (sc:Nat) (iE:∀(j:Nat) (m:Int),ms[j]?=some m->∃ad,As=some ad/\w.cell? (ad.add j)=some (.int k m)) :
  ∃w',(Builtin.copy_ #[t,t'] ty #[.slice Ad n dcap,.slice As ms.length sc]).run P w=.ok (.int .i64 (min ms.length n:Nat)) w' /\
   gV E X w0 ρ al fr (xQ hp i (some ⟨e',.ints k (ns.take off ++ (ms.take n ++ ns.drop (off+min ms.length n)))⟩)) a w':=by
 obtain⟨ie,hi,pY,_⟩:=Iw.i;have pY:ie.size=1:=pY;have Se:(P.info? e).map (·.size)=some 1:=by simp[hi,pY]
 obtain⟨_,arr,Zb,aAS,bAO⟩:=h.blk i _ hb
 by_cases h0:min ms.length n=0
 ·refine⟨w,?_,?_⟩
  ·have:=run_copy_none (P:=P) w t t' ty e Ad As n dcap ms.length sc sO Se h0;rw[this,h0];rfl
  ·have hc:ns.take off ++ (ms.take n ++ ns.drop (off+min ms.length n))=ns:=by
    have:ms.take n=[]:=by
     apply bOL;rw[bOM];omega
    rw[this,h0];simp
   rw[hc,Oy _ _ _ hb];exact h
 ·have hn:0<n:=by omega
  have hm:0<ms.length:=by omega
  have hA:=hA hn;subst hA;obtain⟨ad,rfl,_⟩:=iE 0 ms[0] (bMM hm);have hlen:(eM k (ms.take n)).length=min ms.length n:=by rw[eM,bNP,bOM];omega
  have eY:=run_copy_row (P:=P) w t t' ty e (ρ i) off n dcap ad ms.length sc arr e' (eM k (ms.take n)) sO Se Zb hlen (fun j v hj=>by
   simp only[eM,bMA,bNA]at hj;obtain⟨m,hm,rfl⟩:=hj;have Tt:j<n:=by have:=aR hm;simp at this;omega
   rw[bMB Tt]at hm;obtain⟨bFN,e1,e2⟩:=iE j m hm;cases e1;exact e2) (by rw[hlen];have:ns.length<=arr.size:=aAS;omega) (Dn k _)
  rw[hlen]at eY;refine⟨_,eY,?_⟩;have aAS:ns.length<=arr.size:=aAS;refine h.setRow hb _ _ ⟨fun k1 Sa e1=>?_,fun Ho e1=>by cases e1⟩ ?_ ?_
  ·cases e1;exact⟨k,ns,rfl,by simp;omega⟩
  ·rw[jA Zb];simp[hlen];omega
  ·refine⟨by simp[hlen];omega,fun j m hj=>?_⟩;have iN:(ms.take n).length=min ms.length n:=by simp;omega
   rw[<-iN,List.oC ns (ms.take n) off j (by rw[iN];omega)]at hj;have e1:(arr.toList.take off ++ eM k (ms.take n) ++ arr.toList.drop (off+min ms.length n)).toArray[j]?=(arr.toList.take off ++ (eM k (ms.take n) ++ arr.toList.drop (off+(eM k (ms.take n)).length)))[j]?:=by
    rw[hlen];simp[bNR]
   rw[e1,List.oC _ _ _ _ (by rw[hlen];simp;omega),hlen];rw[iN]at hj
   by_cases Iz:off<=j/\j<off+min ms.length n
   ·rw[if_pos Iz]at hj ⊢;simp only[eM,bMA,hj,bMJ]
   ·rw[if_neg Iz]at hj ⊢;simpa using bAO j m hj
theorem aEY(h:gV E X w0 ρ al fr hp a w)(hd:gY E.nt o=true)(hT:mG P E.T){args:Array Operand}{uI:Array TypeId}(ho:o.op=.call ⟨.builtin .copy,args,uI⟩)(he:oX E id o (evA E fr) hp=some (x,u)):iD P E X w0 al fr hp a w o id x u:=by
 obtain⟨args⟩:=args;obtain⟨uI⟩:=uI;unfold oX effK at he;rw[ho]at he;simp only[builtinK]at he
 match args,uI,he with
 | [y,z],[t,t'],he =>
  simp only[bLV,bMO]at he;split at he
  ·rename_i s0 b0 z0 e uJ;obtain⟨d,sO,zX⟩:=(hT t _ uJ).d;have zX:d=.slice e:=zX;subst zX;split at he
   ·rename_i bytes zero k Iw;have Ha:=hT e _ Iw;have hy:=(h.ev y).1;have fin:∀{i:Nat} {e':TypeId} {k':IntKind} {ns cs:List Int} {n:Nat},(∃w',(Builtin.copy_ #[t,t'] o.type (#[y,z].map a.eval)).run P w=.ok (.int .i64 n) w'/\gV E X w0 ρ al fr (xQ hp i (some ⟨e',.ints k cs⟩)) a w') ->
      iD P E X w0 al fr hp a w o id (yJ (.int .i64 n)) [(i,some ⟨e',.ints k cs⟩)]:=by
     intro i e' k' ns cs n hw;obtain⟨w',h1,h2⟩:=hw;exact⟨ρ,_,w',.inl (jE ho (f:=Builtin.copy_) (fun _ _=>rfl) h1),(h2.more id).pure hd ⟨rfl,rfl⟩ (by simp[kQ])⟩
    split at he
    ·rename_i i n ms gR aIZ;rw[gR]at hy;obtain⟨cap,hv,yK,hc,_⟩:=hy;split at he
     ·rename_i e' k' ns hb;split at he
      ·rename_i hk;subst hk;obtain⟨e1,e2⟩:=Prod.mk.inj (Option.some.inj he);rw[<-e1,<-e2];obtain⟨hn,_⟩:=hc _ k ns hb rfl;obtain⟨A0,c0,Yw,iE⟩:=qW h aIZ;have:=Kt (P:=P) h (t':=t') (off:=0) (n:=n) (dcap:=cap) o.type sO Ha hb (by omega) (some ⟨ρ i,0,none⟩) (fun _=>rfl) A0 c0 iE;simp only[List.take_zero,List.nil_append,bLY]at this;refine fin (k':=k) (ns:=ns) ?_;simp only[bMR,bLV,bMO,hv,Yw];exact this
      ·cases he
     ·cases he
    ·rename_i i off n ms gR aIZ;rw[gR]at hy;obtain⟨Ad,cap,hv,yK,hA,hc⟩:=tJ hy;split at he
     ·rename_i e' k' ns hb;split at he
      ·rename_i hk;obtain⟨rfl,hle⟩:=hk;obtain⟨e1,e2⟩:=Prod.mk.inj (Option.some.inj he);rw[<-e1,<-e2];obtain⟨A0,c0,Yw,iE⟩:=qW h aIZ;have:=Kt (P:=P) h (t':=t') (off:=off) (n:=n) (dcap:=cap) o.type sO Ha hb hle Ad hA A0 c0 iE;refine fin (k':=k) (ns:=ns) ?_;simp only[bMR,bLV,bMO,hv,Yw];exact this
      ·cases he
     ·cases he
    ·cases he
   ·cases he
  ·cases he
 | [],_,he=>simp at he
 | [_],_,he=>simp at he
 |_ :: _ :: _ :: _,_,he=>simp at he
 | [_,_],[],he=>simp at he
 | [_,_],[_],he=>simp at he
 | [_,_],_ :: _ :: _ :: _,he=>simp at he
def lK(Y:Nat->Prop)(w:World):D->Value->Prop
 | .s x,v=>mW Y w x v
 | .rows sz n f,v=>∃A c,v=.slice A n c/\n<=c/\∀i,i<n->(f i).length=sz/\∃b off,A=some ⟨b,off,none⟩/\rJ Y w b (off+i*sz) (f i)
 | .agg cs,v=>∃arr,v=.agg arr/\gF Y w cs arr.toList
 | .own _ k ns,v=>mW Y w (.ints k ns) v
 | .io _ _ _ _ _,_=>False
 | .back _ _ _,_=>False
def Lc(base:Nat)(w:World)(g:Nat)(e:TypeId)(k:IntKind)(ns:List Int)(v:Value):Prop :=
 ∃arr cap,v=.slice (some ⟨g,0,none⟩) ns.length cap/\base<=g/\w.heap[g]?=some (.cells arr e (0,0))/\ns.length<=cap/\cap<=arr.size/\cap<=maxLen/\∀(j:Nat) (n:Int),ns[j]?=some n->arr[j]?=some (Value.int k n)
def iV:D->Bool
 | .own _ _ _=>true
 |_=>false
def Uy(Y:Nat->Prop)(base:Nat)(w:World)(rs:List D)(vs:List Value):Prop :=
 ∃g:Nat->Nat,rs.length=vs.length/\(∀(i j:Nat) (d d':D),rs[i]?=some d->rs[j]?=some d'->iV d=true->iV d'=true->g i=g j->i=j) /\
  ∀(i:Nat) (d:D) (v:Value),rs[i]?=some d->vs[i]?=some v->match d with
   | .own e k ns=>Lc base w (g i) e k ns v
   |d=>lK (fun b=>Y b\/∃(j:Nat) (d':D),rs[j]?=some d'/\iV d'=true/\g j=b) w d v
def resV:List Value->Value
 | [v]=>v
 |vs=>.tuple vs.toArray
def Contract(P:Program)(glob:Nat->Option (IntKind×List Int))(f:FuncId)(ds rs:List D):Prop :=
 ∀(Y:Nat->Prop) (w:World) (vs:List Value),(∀b,Y b->b<w.heap.size)->GlobOk glob Y w->ds.length=vs.length ->
  (∀(i:Nat) (d:D) (v:Value),ds[i]?=some d->vs[i]?=some v->lK Y w d v) ->
  Calls P f vs.toArray w fun e w'=>∃vJ,e=.returned (resV vJ)/\Below w.heap.size w w'/\Uy Y w.heap.size w' rs vJ
def Uw(w:World)(g len off n:Nat)(v:Value):Prop :=
 ∃o' cap,v=.slice (some ⟨g,o',none⟩) n cap/\n<=cap/\(0<n->o'=off)/\(off=0->o'=0)/\off+n<=len/\cap<=maxLen/\cap<=jQ w g
def aQF(w:World)(g:Nat)(e:TypeId)(k:IntKind)(ns:List Int)(off n:Nat)(v:Value):Prop :=
 Uw w g ns.length off n v/\Bl (fun _=>False) w g ⟨e,.ints k ns⟩
def Ap:D->Bool
 | .io _ _ _ _ _=>true
 |_=>false
def Yc(Y:Nat->Prop)(w:World)(g:Nat->Nat)(i:Nat)(v:Value):D->Prop
 | .io e k ns off n=>Y (g i)/\aQF w (g i) e k ns off n v
 |d=>lK Y w d v
def Ol(w:World)(b:Nat):D->Prop
 | .io e k ns _ _=>Bl (fun _=>False) w b ⟨e,.ints k ns⟩
 |_=>False
structure zM(M:Nat->Prop)(w w':World):Prop where
 os:w'.os=w.os
 tape:w'.tape=w.tape
 output:w'.output=w.output
 size:w.heap.size<=w'.heap.size
 block:∀b,b<w.heap.size->¬M b->w'.heap[b]?=w.heap[b]?
 room:∀b,M b->jQ w' b=jQ w b
def zH(ps:List Nat)(g:Nat->Nat)(b:Nat):Prop:=∃i,i∈ps/\g i=b
def aML(ps:List Nat)(ds js:List D):Prop :=
 ∀(j i:Nat),ps[j]?=some i->∃e k ns off n e' k' lB,ds[i]?=some (.io e k ns off n)/\js[j]?=some (.io e' k' lB 0 0)/\lB.length=ns.length
def bCG(Y:Nat->Prop)(base:Nat)(w:World)(ps:List Nat)(js:List D)(g0:Nat->Nat)(gi:Nat)(v:Value):D->Prop
 | .own e k ns=>Lc base w gi e k ns v
 | .back p off n=>∃(j:Nat) (e:TypeId) (k:IntKind) (ns:List Int),ps[j]?=some p/\js[j]?=some (.io e k ns 0 0)/\Uw w (g0 p) ns.length off n v
 |d=>lK Y w d v
def Ob(Y:Nat->Prop)(base:Nat)(w:World)(ps:List Nat)(js:List D)(g0:Nat->Nat)(rs:List D)(vs:List Value):Prop :=
 ∃g:Nat->Nat,rs.length=vs.length/\(∀(i j:Nat) (d d':D),rs[i]?=some d->rs[j]?=some d'->iV d=true->iV d'=true->g i=g j->i=j) /\
  ∀(i:Nat) (d:D) (v:Value),rs[i]?=some d->vs[i]?=some v->bCG (fun b=>Y b\/∃(j:Nat) (d':D),rs[j]?=some d'/\iV d'=true/\g j=b) base w ps js g0 (g i) v d
structure mQ(P:Program)(glob:Nat->Option (IntKind×List Int))(f:FuncId)(ps:List Nat)(ds rs js:List D):Prop where
 len:js.length=ps.length
 io:aML ps ds js
 run:∀(Y:Nat->Prop) (w:World) (vs:List Value) (g:Nat->Nat),(∀b,Y b->b<w.heap.size)->GlobOk glob Y w->ds.length=vs.length ->
  (∀(i:Nat) (d:D) (v:Value),ds[i]?=some d->vs[i]?=some v->Yc Y w g i v d)->(∀i j,i∈ps->j∈ps->g i=g j->i=j) ->
  Calls P f vs.toArray w fun e w'=>∃vJ,e=.returned (resV vJ)/\zM (zH ps g) w w'/\Ob Y w.heap.size w' ps js g rs vJ/\∀(j i:Nat) (d:D),ps[j]?=some i->js[j]?=some d->Ol w' (g i) d
def tA(P:Program)(f:FuncId):Prop:=∀(vs:Array Value) (w:World),(callFunc f vs).run P w=.ok (.enter f vs) w
structure iT(P:Program)(E:Env):Prop where
 c:∀f ds g rs,E.ioF f=[]->E.C f ds=some (g,rs)->g->Contract P E.glob f ds rs/\tA P f
 i:∀f p ps ds g rs,E.ioF f=p :: ps->E.C f ds=some (g,rs)->g->∃Bz js,rs=Bz ++ js/\mQ P E.glob f (p :: ps) ds Bz js/\tA P f
 x:∀f vs g rs,E.ext f vs=some (g,rs)->g->(∀v∈rs,v.oneCell'=true)/\∀w,(callFunc f vs.toArray).run P w=.ok (.value (resV rs)) w
theorem lK.later{Y Y':Nat->Prop}{w w':World}(h:fV Y w Y' w'){d:D}{v:Value}(r:lK Y w d v):lK Y' w' d v:=by
 cases d with
 |s x=>exact mW.later h r
 |rows sz n f =>
  obtain⟨A0,c,hv,hle,hc⟩:=r;refine⟨A0,c,hv,hle,fun i hi=>?_⟩;obtain⟨hl,b,off,hA,Qk⟩:=hc i hi;exact⟨hl,b,off,hA,Qk.later h⟩
 |agg cs=>obtain⟨arr,hv,hr⟩:=r;exact⟨arr,hv,hr.later h⟩
 |own e k ns=>exact mW.later (s:=.ints k ns) h r
 |io=>exact r
 |back=>exact r
theorem mW.any{Y Y':Nat->Prop}{w w':World}{x:S}{v:Value}(hs:Eu x=false)(r:mW Y w x v):mW Y' w' x v:=by
 cases x with
 |sc u=>exact r
 |bot=>exact r
 |ints k ns=>cases hs
theorem lK.any{Y Y':Nat->Prop}{w w':World}{d:D}{v:Value}(hs:shares d=false)(ho:iV d=false)(r:lK Y w d v):lK Y' w' d v:=by
 cases d with
 |s x=>exact mW.any hs r
 |rows sz n f=>cases hs
 |agg cs =>
  obtain⟨arr,hv,hl,hr⟩:=r;refine⟨arr,hv,hl,fun i s u h1 h2=>(hr i s u h1 h2).any ?_⟩;have:=List.any_eq_false.1 (show cs.any Eu=false from hs) s (bMF h1);simpa using this
 |own e k ns=>cases ho
 |io=>exact r
 |back=>exact r
def Uq(args:List A):nZ:=(args.flatMap refs).map fun i=>(i,none)
theorem Rf(args:List A):Cons (Uq args):=by
 intro p hp;obtain⟨i,_,rfl⟩:=List.mem_map.1 hp;rfl
theorem Bs(h:gV E X w0 ρ al fr hp a w){u:nZ}(hu:Cons u){y:A}{v:Value}(hr:vI ρ hp (XO X ρ hp) w y v)(Iz:∀i∈refs y,(i,none)∈u){d:D}(hd:toD hp y=some d):lK (XO X ρ (applyUps u hp)) w d v:=by
 have hl:fV (XO X ρ hp) w (XO X ρ (applyUps u hp)) w:=fV.cons hu;unfold toD at hd;split at hd
 ·cases hd;obtain⟨arr,hv,hs⟩:=hr;exact⟨arr,hv,hs.later hl⟩
 ·cases hd;exact mW.later hl hr
 ·cases hd;exact lK.later hl (d:=.rows _ _ _) hr
 ·rename_i i n;split at hd
  ·rename_i e k ns hb;cases hd;obtain⟨cap,hv,yK,hc,_⟩:=hr;obtain⟨hn,_⟩:=hc _ k ns hb rfl;subst hn;refine⟨_,cap,hv,yK,fun j m hj=>⟨ρ i,0,rfl,h.gX hb,h.Ql hb hu (Iz i (by simp[refs,refsV,refsL])),?_⟩⟩;rw[bLY];exact h.vC hb hj
  ·rename_i e cs hb;split at hd
   ·rename_i hlen;cases hd;obtain⟨cap,hv,yK,_⟩:=hr;refine⟨_,cap,hv,yK,fun j hj=>?_⟩;have hle:(j+1)*(cs.length/n)<=n*(cs.length/n):=bNJ _ hj;rw[bMQ,Nat.one_mul]at hle;refine⟨by simp;omega,ρ i,0,rfl,fun m s hm=>?_⟩;have aZN:m<cs.length/n:=by
     have:=aR hm;simp at this;omega
    rw[bMB aZN,bMI]at hm;obtain⟨_,hB⟩:=h.blk i _ hb;obtain⟨arr,aWY,aUU⟩:=hB;obtain⟨aLR,Qk⟩:=aUU;obtain⟨u0,aSZ,bHW⟩:=Qk _ _ hm;refine⟨h.gX hb,h.Ql hb hu (Iz i (by simp[refs,refsV,refsL])),u0,?_,mW.later hl bHW⟩;rw[cell_of_row w (ρ i) _ arr e (0,0) aWY,bLY];exact aSZ
   ·cases hd
  ·cases hd
 ·rename_i i off n;split at hd
  ·rename_i e k ns hb;cases hd;obtain⟨A0,cap,hv,yK,hA,hc⟩:=tJ hr;have hle:=hc _ k ns hb rfl;have hlen:((ns.drop off).take n).length=n:=by simp;omega
   refine⟨A0,cap,by rw[hlen];exact hv,by rw[hlen];exact yK,fun j m hj=>?_⟩;have Tt:j<n:=by have:=aR hj;omega
   refine⟨ρ i,off,hA (by omega),h.gX hb,h.Ql hb hu (Iz i (by simp[refs,refsV,refsL])),?_⟩;rw[bMB Tt,bMI]at hj;exact h.vC hb hj
  ·cases hd
 ·cases hd
theorem gV.called(h:gV E X w0 ρ al fr hp a w){w':World}(hB:Below w.heap.size w w'){ρ':Nat->Nat}{hp':Nat->Option iM}{al':Nat->Prop}(pK:∀i,al i->al' i)
  (hold:∀i,al i->ρ' i=ρ i/\hp' i=hp i) (qA:∀i b,hp' i=some b->¬al i->al' i/\w.heap.size<=ρ' i/\∀Y,Bl Y w' (ρ' i) b)
  (wU:∀i j b c,hp' i=some b->hp' j=some c->¬al i->¬al j->ρ' i=ρ' j->i=j):gV E X w0 ρ' al' fr hp' a w'/\fV (XO X ρ hp) w (XO X ρ' hp') w':=by
 have Tv:Kept w0 w w':=⟨hB.os,hB.tape,hB.output,hB.size,fun b hb=>hB.block b (by have:=h.below.size;have:=Old.Po hb;omega),fun b hb=>uC (hB.block b (by have:=h.below.size;have:=w0.aSA b hb;omega))⟩;have hl:fV (XO X ρ hp) w (XO X ρ' hp') w':=by
  refine⟨hB.size,fun b hb hx=>⟨hB.block b hb,fun ho=>?_⟩⟩;rcases ho with ho |⟨i,bl,h1,h2⟩
  ·exact hx (.inl ho)
  ·by_cases hi:al i
   ·obtain⟨e1,e2⟩:=hold i hi;exact hx (.inr ⟨i,bl,by rw[<-e2];exact h1,by rw[<-e1];exact h2⟩)
   ·have:=(qA i bl h1 hi).2.1;omega
 refine⟨h.change hl Tv ?_ ?_ ?_ pK ?_,hl⟩
 ·intro i hi;obtain⟨e1,e2⟩:=hold i hi;refine⟨e1,fun b' vQ=>?_⟩;rw[e2]at vQ;refine⟨b',vQ,sameShape.refl _,?_⟩;unfold jQ;rw[hB.block _ (h.gX vQ)]
 ·intro i b hb
  by_cases hi:al i
  ·obtain⟨e1,e2⟩:=hold i hi;rw[e2]at hb;rw[e1];exact⟨(h.blk i b hb).1,(h.blk i b hb).2.later hl (hB.block _ (h.gX hb))⟩
  ·obtain⟨_,h2,h3⟩:=qA i b hb hi;exact⟨.inl (bMS h.below.size h2),h3 _⟩
 ·intro i j b c hb hc e
  by_cases hi:al i
  ·obtain⟨e1,e2⟩:=hold i hi
   by_cases hj:al j
   ·obtain⟨e3,e4⟩:=hold j hj;rw[e2]at hb;rw[e4]at hc;rw[e1,e3]at e;exact h.inj i j b c hb hc e
   ·rw[e2]at hb;have:=h.gX hb;have:=(qA j c hc hj).2.1;omega
  ·by_cases hj:al j
   ·obtain⟨e3,e4⟩:=hold j hj;rw[e4]at hc;have:=h.gX hc;have:=(qA i b hb hi).2.1;omega
   ·exact wU i j b c hb hc hi hj e
 ·intro i b hb
  by_cases hi:al i
  ·exact pK i hi
  ·exact(qA i b hb hi).1
theorem gV.aFS(h:gV E X w0 ρ al fr hp a w){w':World}{M:Nat->Prop}(hB:zM M w w')(hM:∀b,M b->aHM ρ hp b){ρ':Nat->Nat}{hp':Nat->Option iM}{al':Nat->Prop}(pK:∀i,al i->al' i)
  (hρ:∀i,al i->ρ' i=ρ i)
  (hold:∀i b',al i->hp' i=some b'->(¬M (ρ i)/\hp i=some b')\/(M (ρ i)/\∃b,hp i=some b/\sameShape b b'/\∀Y,Bl Y w' (ρ i) b'))
  (qA:∀i b,hp' i=some b->¬al i->al' i/\w.heap.size<=ρ' i/\∀Y,Bl Y w' (ρ' i) b)
  (wU:∀i j b c,hp' i=some b->hp' j=some c->¬al i->¬al j->ρ' i=ρ' j->i=j):gV E X w0 ρ' al' fr hp' a w'/\fV (XO X ρ hp) w (XO X ρ' hp') w':=by
 have aTT:∀b,M b->w0.Ee b:=fun b hb=>by
  obtain⟨id,bl,h1,rfl⟩:=hM b hb;exact(h.blk id bl h1).1.Ee
 have Tv:Kept w0 w w':=⟨hB.os,hB.tape,hB.output,hB.size,fun b hb=>hB.block b (by have:=h.below.size;have:=Old.Po hb;omega) (fun hm=>hb (aTT b hm)),fun b hb=>by
  by_cases hm:M b
  ·exact hB.room b hm
  ·exact uC (hB.block b (by have:=h.below.size;have:=w0.aSA b hb;omega) hm)⟩
 have Qh:∀i b',al i->hp' i=some b'->∃b,hp i=some b/\sameShape b b':=by
  intro i b' hi hb;rcases hold i b' hi hb with ⟨_,h2⟩ |⟨_,b,h2,h3,_⟩
  ·exact⟨b',h2,sameShape.refl _⟩
  ·exact⟨b,h2,h3⟩
 have hl:fV (XO X ρ hp) w (XO X ρ' hp') w':=by
  refine⟨hB.size,fun b hb hx=>⟨hB.block b hb (fun hm=>hx (.inr (hM b hm))),fun ho=>?_⟩⟩;rcases ho with ho |⟨i,bl,h1,h2⟩
  ·exact hx (.inl ho)
  ·by_cases hi:al i
   ·obtain⟨b0,h3,_⟩:=Qh i bl hi h1;exact hx (.inr ⟨i,b0,h3,by rw[<-hρ i hi];exact h2⟩)
   ·have:=(qA i bl h1 hi).2.1;omega
 have pY:∀i b,al i->hp i=some b->jQ w' (ρ i)=jQ w (ρ i):=by
  intro i b hi hb
  by_cases hm:M (ρ i)
  ·exact hB.room _ hm
  ·exact uC (hB.block _ (h.gX hb) hm)
 refine⟨h.change hl Tv ?_ ?_ ?_ pK ?_,hl⟩
 ·intro i hi;refine⟨hρ i hi,fun b' vQ=>?_⟩;obtain⟨b,h2,h3⟩:=Qh i b' hi vQ;exact⟨b,h2,h3,pY i b hi h2⟩
 ·intro i b hb
  by_cases hi:al i
  ·rw[hρ i hi];rcases hold i b hi hb with ⟨hm,h2⟩ |⟨_,b0,h2,_,h4⟩
   ·exact⟨(h.blk i b h2).1,(h.blk i b h2).2.later hl (hB.block _ (h.gX h2) hm)⟩
   ·exact⟨(h.blk i b0 h2).1,h4 _⟩
  ·obtain⟨_,h2,h3⟩:=qA i b hb hi;exact⟨.inl (bMS h.below.size h2),h3 _⟩
 ·intro i j b c hb hc e
  by_cases hi:al i
  ·obtain⟨b0,h1,_⟩:=Qh i b hi hb
   by_cases hj:al j
   ·obtain⟨c0,h2,_⟩:=Qh j c hj hc;rw[hρ i hi,hρ j hj]at e;exact h.inj i j b0 c0 h1 h2 e
   ·rw[hρ i hi]at e;have:=h.gX h1;have:=(qA j c hc hj).2.1;omega
  ·by_cases hj:al j
   ·obtain⟨c0,h2,_⟩:=Qh j c hj hc;rw[hρ j hj]at e;have:=h.gX h2;have:=(qA i b hb hi).2.1;omega
   ·exact wU i j b c hb hc hi hj e
 ·intro i b hb
  by_cases hi:al i
  ·exact pK i hi
  ·exact(qA i b hb hi).1
theorem wC(keep:Bool):∀(rs:List D) (id:Nat),(takeAll keep id rs).1.length=rs.length
 | [],_=>rfl
 |d :: r,id=>by simp[takeAll,wC keep r (id+1)]
theorem wF(keep:Bool):∀(rs:List D) (id:Nat) (i:Nat) (d:D),rs[i]?=some d->(takeAll keep id rs).1[i]?=some (takeIn keep (id+i) d).1
 |d0 :: r,id,0,d,h=>by simp at h;subst h;rfl
 |d0 :: r,id,i+1,d,h=>by
  simp only[bNT]at h;have:=wF keep r (id+1) i d h;simp only[takeAll,bNT,this];rw[show id+1+i=id+(i+1) by omega]
theorem takeAll_ups(keep:Bool):∀(rs:List D) (id:Nat) (hp:Nat->Option iM) (j:Nat),
  applyUps (takeAll keep id rs).2 hp j=match (if id<=j then rs[j-id]? else none)with
   |some (.own e k ns)=>if keep=true then some ⟨e,.ints k ns⟩else hp j
   |_=>hp j
 | [],id,hp,j=>by simp[takeAll,applyUps]
 |d :: r,id,hp,j=>by
  simp only[takeAll];rw[jB,takeAll_ups keep r (id+1)]
  by_cases hj:id+1<=j
  ·rw[if_pos hj,aT];have e:j-id=(j-(id+1))+1:=by omega
   rw[e,bNT];have hd:applyUps (takeIn keep id d).2 hp j=hp j:=by
    cases d <;> cases keep <;> first |rfl | (simp only[takeIn,cond_true,applyUps];rw[eG _ _ (by omega)])
   rw[hd]
  ·rw[if_neg hj]
   by_cases bIX:id<=j
   ·obtain rfl:j=id:=by omega
    rw[if_pos (bLW _),Nat.sub_self];cases d <;> cases keep <;> simp[takeIn,applyUps,bG]
   ·rw[if_neg bIX];cases d <;> cases keep <;> first |rfl | (simp only[takeIn,cond_true,applyUps];rw[eG _ _ (by omega)])
end
end AI
namespace AI
open Go Go.RowKit
section
variable {P:Program} {E:Env} {X:Nat->Prop} {w0:Old} {ρ:Nat->Nat} {al:Nat->Prop} {fr:Nat->A} {hp:Nat->Option iM} {a:Act} {w:World} {o:Oper} {id:Nat} {x:A} {u:nZ}
def Nx(P:Program)(E:Env)(X:Nat->Prop)(w0:Old)(al:Nat->Prop)(fr:Nat->A)(hp:Nat->Option iM)(a:Act)(w:World)(o:Oper)(id:Nat)(x:A)(u:nZ):Prop :=
 ∀(next:Act->World->Prop) (Q:Exit->Act->World->Prop),(∀ρ' v w',gV E X w0 ρ' (lY al id) (zE o x fr) (applyUps u hp) (a.put o.dst v) w'->next (a.put o.dst v) w')->o.wp P a w next Q
theorem iD.step(h:iD P E X w0 al fr hp a w o id x u):Nx P E X w0 al fr hp a w o id x u:=by
 intro next Q hn;obtain⟨ρ',v,w',hr,hs⟩:=h;unfold Oper.wp;rcases hr with hr |⟨hr,rfl⟩
 ·rw[hr];exact hn ρ' v w' hs
 ·rw[hr];exact hn ρ' undef w' hs
theorem Pt{α β:Type}{f:α->Option β}:∀{l:List α} {r:List β},l.mapM f=some r->∀(i:Nat) (y:β),r[i]?=some y->∃x,l[i]?=some x/\f x=some y
 | [],r,h,i,y,hy=>by simp at h;subst h;simp at hy
 |x :: l,r,h,i,y,hy=>by
  rw[bND]at h;simp only[bOB,bOC,bOD,Option.some.injEq]at h;obtain⟨z,hz,zs,Wx,rfl⟩:=h
  match i with
  |0=>simp at hy;subst hy;exact⟨x,rfl,hz⟩
  |i+1=>simp at hy ⊢;exact Pt Wx i y hy
theorem Tg{args:List A}{y:A}(hy:y∈args){i:Nat}(hi:i∈refs y):(i,none)∈Uq args :=
 List.mem_map.2 ⟨i,List.mem_flatMap.2 ⟨y,hy,hi⟩,rfl⟩
theorem yR(h:gV E X w0 ρ al fr hp a w):∀{args:List Operand} {vs:List Value},argVals (args.map (evA E fr))=some vs->args.map a.eval=vs
 | [],vs,he=>by cases he;rfl
 |y :: ys,vs,he=>by
  simp only[bLV]at he ⊢;unfold argVals at he;split at he
  ·cases ‹_ :: _=[]›
  ·rename_i v r gR;obtain⟨e1,e2⟩:=List.cons.inj gR;obtain⟨vr,bDQ,rfl⟩:=Option.map_eq_some_iff.1 he;have hy:=(h.ev y).1;rw[e1]at hy;rw[<-e2]at bDQ;rw[yR h bDQ,hy.1]
  ·cases he
theorem Hh{R:Type}{g:Prop}{x:Option R}{r:R}(h:aO g x=some r):g/\x=some r:=by
 unfold aO at h;split at h
 ·rename_i hg;exact⟨hg,h⟩
 ·cases h
theorem Xg{R:Type}{g:Prop}{x:Option R}(h:g):aO g x=x:=by unfold aO;rw[if_pos h]
theorem aJP (h : gV E X w0 ρ al fr hp a w) (hd : gY E.nt o = true) (hC : iT P E) {f : FuncId} {fo : Operand} (hf : a.eval fo = .func (.func f) #[] #[]) {args : List Operand} {uI : Array TypeId} (ho : o.op = .call ⟨.value fo, args.toArray, uI⟩) {g : Prop} {rs : List Value} (hr : (argVals (args.map (evA E fr))).bind (E.ext f) = some (g, rs)) (hg : g)
    (he : some (aRW rs, []) = some (x, u)) : iD P E X w0 al fr hp a w o id x u := by
  obtain ⟨vs, aYR, hx⟩ := Option.bind_eq_some_iff.1 hr
  obtain ⟨Mt, eY⟩ := hC.x f vs g rs hx hg
  have hargs := yR h aYR
  have hex : (execOp a.eval o).run P w = .ok (.value (resV rs)) w := by
    unfold execOp
    rw [ho]
    simp only [resolve, hf, Deferred.ofValue, Sem.run_bind, Sem.run_pure, Result.andThen_ok, invoke]
    rw [← eY w]
    congr 1
    simp [← hargs]
  match rs, he with
  | [v], he =>
    obtain ⟨e1, e2⟩ := Prod.mk.inj (Option.some.inj he)
    rw [← e1, ← e2]
    exact bY h hd hex ⟨rfl, Mt v (by simp)⟩ (by intro i hi; cases hi)
  | [], he =>
    obtain ⟨e1, e2⟩ := Prod.mk.inj (Option.some.inj he)
    rw [← e1, ← e2]
    exact bY h hd hex ⟨#[], rfl, rfl, fun i y v hy => by simp at hy⟩ (by intro i hi; cases hi)
  | v1 :: v2 :: vr, he =>
    obtain ⟨e1, e2⟩ := Prod.mk.inj (Option.some.inj he)
    rw [← e1, ← e2]
    refine bY h hd hex ⟨(v1 :: v2 :: vr).toArray, rfl, by simp, fun i y v hy hv => ?_⟩ ?_
    · simp only [bMA, bNA] at hy
      obtain ⟨q, hq, rfl⟩ := hy
      have : q = v := by have : (v1 :: v2 :: vr)[i]? = some v := by simpa using hv
                         rw [hq] at this; exact Option.some.inj this
      subst this
      exact ⟨rfl, Mt q (bMF hq)⟩
    · intro j hj
      obtain ⟨y, hy, hj⟩ := List.mem_flatMap.1 hj
      obtain ⟨q, _, rfl⟩ := List.mem_map.1 hy
      simp [refsV, refsL] at hj
theorem Wt:∀{l r:List Nat},leqN l r=true->l=r
 | [],[],_=>rfl
 |a :: l,b :: r,h=>by
  simp only[leqN,bMC]at h;rw[bMK h.1,Wt h.2]
 | [],_ :: _,h=>by cases h
 |_ :: _,[],h=>by cases h
theorem xC(ps:List Nat)(hp:Nat->Option iM):∀(args:List A) (i:Nat) (us:List (Nat×Nat)) (ds:List D),argsIO ps hp i args=some (us,ds) ->
  (∃gid:Nat->Nat,∀q∈us,i<=q.1/\gid q.1=q.2)/\(∀q∈us,∃y d,args[q.1-i]?=some y/\i<=q.1/\toIO hp y=some (q.2,d)/\ds[q.1-i]?=some d)/\ds.length=args.length /\
  ∀(j:Nat) (d:D),ds[j]?=some d->∃y,args[j]?=some y/\((∃k,toIO hp y=some (k,d)/\(i+j,k)∈us)\/(toD hp y=some d/\∀r∈refs y,r∈mZ ps i args))
 | [],i,us,ds,h=>by
  cases h;exact⟨⟨fun _=>0,fun q hq=>by cases hq⟩,fun q hq=>(by cases hq),rfl,fun j d hj=>by simp at hj⟩
 |y :: args,i,us,ds,h=>by
  unfold argsIO at h;cases Pz:ps.elem i with
  |true =>
   rw[Pz]at h;simp only[cond_true]at h;split at h
   ·rename_i k d Hd;split at h
    ·rename_i bCS ds' hr;cases h;obtain⟨⟨gid,h1⟩,h2,h3,h4⟩:=xC ps hp args (i+1) bCS ds' hr;refine⟨⟨fun q=>if q=i then k else gid q,?_⟩,?_,by simp[h3],?_⟩
     ·intro q hq;rcases List.mem_cons.1 hq with rfl |hq
      ·exact⟨bLW _,by simp⟩
      ·obtain⟨h5,h6⟩:=h1 q hq;exact⟨by omega,by simp only;rw[aX];exact h6⟩
     ·intro q hq;rcases List.mem_cons.1 hq with rfl |hq
      ·exact⟨y,d,by simp,bLW _,Hd,by simp⟩
      ·obtain⟨y',d',h5,h6,h7,h8⟩:=h2 q hq;exact⟨y',d',by rw[show q.1-i=(q.1-(i+1))+1 by omega];simpa using h5,by omega,h7,by rw[show q.1-i=(q.1-(i+1))+1 by omega];simpa using h8⟩
     ·intro j d' hj
      match j with
      |0 =>
       simp at hj;subst hj;exact⟨y,rfl,.inl ⟨k,Hd,by simp⟩⟩
      |j+1 =>
       obtain⟨y',h5,h6⟩:=h4 j d' (by simpa using hj);refine⟨y',by simpa using h5,?_⟩;rcases h6 with ⟨k',h7,h8⟩ |⟨h7,h8⟩
       ·exact .inl ⟨k',h7,bMP _ (by rw[show i+(j+1)=i+1+j by omega];exact h8)⟩
       ·exact .inr ⟨h7,fun r hr=>by unfold mZ;exact bON _ (h8 r hr)⟩
    ·cases h
   ·cases h
  |false =>
   rw[Pz]at h;simp only[cond_false]at h;split at h
   ·rename_i d Hd;split at h
    ·rename_i bCS ds' hr;cases h;obtain⟨⟨gid,h1⟩,h2,h3,h4⟩:=xC ps hp args (i+1) us ds' hr;refine⟨⟨gid,fun q hq=>⟨by have:=(h1 q hq).1;omega,(h1 q hq).2⟩⟩,?_,by simp[h3],?_⟩
     ·intro q hq;obtain⟨y',d',h5,h6,h7,h8⟩:=h2 q hq;exact⟨y',d',by rw[show q.1-i=(q.1-(i+1))+1 by omega];simpa using h5,by omega,h7,by rw[show q.1-i=(q.1-(i+1))+1 by omega];simpa using h8⟩
     ·intro j d' hj
      match j with
      |0 =>
       simp at hj;subst hj;exact⟨y,rfl,.inr ⟨Hd,fun r hr=>by unfold mZ;rw[Pz];exact List.mem_append_left _ hr⟩⟩
      |j+1 =>
       obtain⟨y',h5,h6⟩:=h4 j d' (by simpa using hj);refine⟨y',by simpa using h5,?_⟩;rcases h6 with ⟨k',h7,h8⟩ |⟨h7,h8⟩
       ·exact .inl ⟨k',h7,by rw[show i+(j+1)=i+1+j by omega];exact h8⟩
       ·exact .inr ⟨h7,fun r hr=>by unfold mZ;exact bON _ (h8 r hr)⟩
    ·cases h
   ·cases h
theorem Dv:∀(us:List (Nat×Nat)) (js:List D) (ub:nZ),backIO us js=some ub->ub.map (·.1)=us.map (·.2)/\∀(j:Nat) (q:Nat×Nat),us[j]?=some q->∃e k ns o n,js[j]?=some (.io e k ns o n)/\ub[j]?=some (q.2,some ⟨e,.ints k ns⟩)
 | [],[],ub,h=>by cases h;exact⟨rfl,fun j q hj=>by simp at hj⟩
 | (p,k) :: us,d :: js,ub,h=>by
  cases d with
  |io e kk ns o n =>
   simp only[backIO]at h;split at h
   ·rename_i bFZ hr;cases h;obtain⟨h1,h2⟩:=Dv us js bFZ hr;refine⟨by simp[h1],fun j q hj=>?_⟩
    match j with
    |0=>simp at hj;subst hj;exact⟨e,kk,ns,o,n,rfl,rfl⟩
    |j+1 =>
     obtain⟨e',k',lB,o',n',h3,h4⟩:=h2 j q (by simpa using hj);exact⟨e',k',lB,o',n',by simpa using h3,by simpa using h4⟩
   ·cases h
  |s=>cases h
  |rows=>cases h
  |agg=>cases h
  |own=>cases h
  |back=>cases h
 | [],_ :: _,ub,h=>by cases h
 |_ :: _,[],ub,h=>by cases h
theorem pA{i:Nat}:∀{u:nZ} {hp:Nat->Option iM},i ∉ u.map (·.1)->applyUps u hp i=hp i
 | [],_,_=>rfl
 | (j,b) :: u,hp,h=>by
  simp only[bLV,bNC,not_or]at h;simp only[applyUps];rw[pA h.2,eG _ _ h.1]
theorem Dw{i:Nat}{b:Option iM}:∀{u:nZ} {hp:Nat->Option iM} {j:Nat},nodup (u.map (·.1))=true->u[j]?=some (i,b)->applyUps u hp i=b
 | [],_,j,_,h=>by simp at h
 | (k,c) :: u,hp,j,hn,h=>by
  simp only[bLV,nodup,bMC,bNE]at hn
  match j with
  |0 =>
   simp at h;obtain⟨rfl,rfl⟩:=h;simp only[applyUps];rw[pA (fun hm=>by
    have:(u.map (·.1)).elem k=true:=by simpa using hm
    rw[this]at hn;cases hn.1),bG]
  |j+1 =>
   simp only[applyUps];exact Dw (j:=j) hn.2 (by simpa using h)
theorem Ce{α:Type}{f:α->Nat}:∀{l:List α} {j j':Nat} {q q':α},nodup (l.map f)=true->l[j]?=some q->l[j']?=some q'->f q=f q'->j=j'
 | [],j,_,q,_,_,h,_,_=>by simp at h
 |y :: l,j,j',q,q',hn,h,h',he=>by
  simp only[bLV,nodup,bMC,bNE]at hn;have vV:∀z∈l,f z≠f y:=fun z hz e=>by
   have:(l.map f).elem (f y)=true:=by
    have:f y∈l.map f:=List.mem_map.2 ⟨z,hz,e⟩;simpa using this
   rw[this]at hn;cases hn.1
  match j,j' with
  |0,0=>rfl
  |0,j'+1=>simp at h h';subst h;exact absurd he.symm (vV q' (bMF h'))
  |j+1,0=>simp at h h';subst h';exact absurd he (vV q (bMF h))
  |j+1,j'+1=>exact congrArg (·+1) (Ce hn.2 (by simpa using h) (by simpa using h') he)
theorem aFD{xs ys:List Nat}(h:Jr xs ys=true){x:Nat}(hx:x∈xs):x ∉ ys:=fun hy=>by
 have:=List.all_eq_true.1 h x hx;have h2:ys.elem x=true:=by simpa using hy
 rw[h2]at this;cases this
theorem Br{y:A}{k:Nat}{d:D}(h:toIO hp y=some (k,d)):∃e kk ns off n,d=.io e kk ns off n/\hp k=some ⟨e,.ints kk ns⟩/\((y=.v (.one (.buf k n))/\off=0)\/y=.v (.one (.view k off n))):=by
 unfold toIO at h;split at h
 ·split at h
  ·rename_i e kk ns hb;cases h;exact⟨_,_,_,_,_,rfl,hb,.inl ⟨rfl,rfl⟩⟩
  ·cases h
 ·split at h
  ·rename_i e kk ns hb;cases h;exact⟨_,_,_,_,_,rfl,hb,.inr rfl⟩
  ·cases h
 ·cases h
theorem Sn(h:gV E X w0 ρ al fr hp a w){y:A}{v:Value}(hr:vI ρ hp (XO X ρ hp) w y v){k:Nat}{e:TypeId}{kk:IntKind}{ns:List Int}{off n:Nat}(hd:toIO hp y=some (k,.io e kk ns off n)):aQF w (ρ k) e kk ns off n v:=by
 obtain⟨e',kk',lB,aSC,n',heq,hb,hy⟩:=Br hd;cases heq;have hB:Bl (fun _=>False) w (ρ k) ⟨e,.ints kk ns⟩:=(h.blk k _ hb).2;rcases hy with ⟨rfl,rfl⟩ |rfl
 ·obtain⟨cap,hv,yK,hc,_⟩:=hr;have:=hc _ kk ns hb rfl;exact⟨⟨0,cap,hv,yK,fun _=>rfl,fun _=>rfl,by omega,this.2.1,this.2.2⟩,hB⟩
 ·obtain⟨o',cap,hv,yK,hA,hA0,hc⟩:=hr;have:=hc _ kk ns hb rfl;exact⟨⟨o',cap,hv,yK,hA,hA0,this⟩,hB⟩
theorem Yd{y:A}{d:D}(h:toD hp y=some d):Ap d=false:=by
 unfold toD at h;split at h
 ·cases h;rfl
 ·cases h;rfl
 ·cases h;rfl
 ·split at h
  ·cases h;rfl
  ·split at h
   ·cases h;rfl
   ·cases h
  ·cases h
 ·split at h
  ·cases h;rfl
  ·cases h
 ·cases h
theorem Hv{Y:Nat->Prop}{w:World}{g:Nat->Nat}{i:Nat}{v:Value}{d:D}(hn:Ap d=false)(h:lK Y w d v):Yc Y w g i v d:=by
 cases d with
 |io=>cases hn
 |s x=>exact h
 |rows a b c=>exact h
 |agg cs=>exact h
 |own a b c=>exact h
 |back=>exact h
theorem Ww{gid:Nat->Nat}:∀{us:List (Nat×Nat)} {q:Nat×Nat},(∀q∈us,gid q.1=q.2)->q∈us->idAt us q.1=gid q.1
 | [],q,_,h=>by cases h
 |q0 :: us,q,hg,h=>by
  simp only[idAt];cases hb:bLX q0.1 q.1 with
  |true =>
   rw[cond_true,<-bMK hb];exact(hg q0 (bMD ..)).symm
  |false =>
   rw[cond_false];rcases List.mem_cons.1 h with rfl |h
   ·rw[Nat.beq_refl]at hb;cases hb
   ·exact Ww (fun q hq=>hg q (bMP _ hq)) h
theorem Tb{us:List (Nat×Nat)}{d:D}{e:TypeId}{k:IntKind}{ns:List Int}(h:reBack us d=.own e k ns):d=.own e k ns:=by
 cases d <;> first |exact h |cases h
theorem eff_callIO(h:gV E X w0 ρ al fr hp a w)(hd:gY E.nt o=true)(hC:iT P E)(tW:∀j,j<8->¬al (id+j)){f:FuncId}{fo:Operand}(hf:a.eval fo=.func (.func f) #[] #[]){args:List Operand}{uI:Array TypeId}(ho:o.op=.call ⟨.value fo,args.toArray,uI⟩){p:Nat}{ps:List Nat}(Hd:E.ioF f=p :: ps)
  (he:callIO E (p :: ps) id (keepOf E o) f (args.map (evA E fr)) hp (fun a u=>some (a,u))=some (x,u)):Nx P E X w0 al fr hp a w o id x u:=by
 simp only[callIO,Af]at he;generalize keepOf E o=keep at he;split at he
 ·cases he
 ·rename_i us ds aQU;cases aJD:leqN (us.map (·.1)) (p :: ps)&&(nodup (us.map (·.2))&&Jr (us.map (·.2)) (mZ (p :: ps) 0 (args.map (evA E fr))))with
  |false=>rw[aJD]at he;cases he
  |true =>
  rw[aJD]at he;simp only[cond_true]at he;simp only[bMC]at aJD;obtain⟨aQW,aOF,bAG⟩:=aJD;have Pz:us.map (·.1)=p :: ps:=Wt aQW;split at he
  ·cases he
  ·rename_i gd rs aTE;obtain⟨aQR,he⟩:=Hh he;obtain⟨Bz,js,rfl,aDX,aEA⟩:=hC.i f p ps ds gd rs Hd aTE aQR;have aWH:us.length=(p :: ps).length:=by rw[<-Pz];simp
   have Ze:(Bz ++ js).length-us.length=Bz.length:=by rw[bMZ,aDX.len,aWH];omega
   rw[Ze]at he;rw[bNL,bOO]at he;cases Xd:bLZ us.length (Bz ++ js).length&&bLZ (Bz ++ js).length 8&&!(Bz.any shares)with
   |false=>rw[Xd]at he;cases he
   |true =>
   rw[Xd]at he;simp only[cond_true]at he;simp only[bMC,bNE]at Xd;obtain⟨⟨_,bIO⟩,aTL⟩:=Xd;have Qf:Bz.length<=8:=by have:=bNU bIO;rw[bMZ]at this;omega
   split at he
   ·cases he
   ·rename_i ub bHQ;obtain⟨⟨gid,aDU⟩,bHN,aLV,bAD⟩:=xC _ _ _ _ _ _ aQU;obtain⟨aSY,aYV⟩:=Dv _ _ _ bHQ;rw[bNP]at aLV;obtain⟨U,hU⟩:∃U:nZ,U=(mZ (p :: ps) 0 (args.map (evA E fr))).map fun i=>(i,none):=⟨_,rfl⟩
    have aHJ:Cons U:=by rw[hU];intro q hq;obtain⟨i,_,rfl⟩:=List.mem_map.1 hq;rfl
    have bKF:U.map (·.1)=mZ (p :: ps) 0 (args.map (evA E fr)):=by rw[hU,List.map_map];exact List.map_id _
    have Ei:∀q∈us,∃e kk ns off n,hp q.2=some ⟨e,.ints kk ns⟩/\ds[q.1]?=some (.io e kk ns off n):=by
     intro q hq;obtain⟨y,d,h1,_,h2,h3⟩:=bHN q hq;obtain⟨e,kk,ns,off,n,rfl,h4,_⟩:=Br h2;exact⟨e,kk,ns,off,n,h4,by simpa using h3⟩
    have aNZ:∀q∈us,applyUps U hp q.2=hp q.2:=fun q hq=>pA (by rw[bKF];exact aFD bAG (List.mem_map.2 ⟨q,hq,rfl⟩))
    have pJ:∀i,i∈p :: ps->∃q∈us,q.1=i/\gid i=q.2:=by
     intro i hi;rw[<-Pz]at hi;obtain⟨q,hq,rfl⟩:=List.mem_map.1 hi;exact⟨q,hq,rfl,(aDU q hq).2⟩
    have hY:∀b,XO X ρ (applyUps U hp) b->b<w.heap.size:=by
     rintro b (hb |⟨i,bl,h1,h2⟩)
     ·have:=Old.Po (h.x0 b hb);have:=h.below.size;omega
     ·have:=h.gX (fK aHJ h1);omega
    have hG:GlobOk E.glob (XO X ρ (applyUps U hp)) w:=by
     intro g k ns hg;obtain⟨h1,h2,h3⟩:=h.My g k ns hg;exact⟨h1,fun ho=>h2 (ho.imp (fun h=>h) (aHM.of_cons aHJ)),h3.later (fV.cons aHJ)⟩
    obtain⟨g0,hg0⟩:∃g0:Nat->Nat,g0=fun i=>ρ (gid i):=⟨_,rfl⟩
    have aMG:∀b,zH (p :: ps) g0 b->∃q∈us,ρ q.2=b:=by
     rintro b ⟨i,hi,rfl⟩;obtain⟨q,hq,_,h2⟩:=pJ i hi;exact⟨q,hq,by rw[hg0];simp only;rw[h2]⟩
    have aDZ:=aDX.run (XO X ρ (applyUps U hp)) w (args.map a.eval) g0 hY hG (by simp[aLV]) (fun i d v hi hv=>by
     obtain⟨y,aDG,aNU⟩:=bAD i d hi;simp only[bMA,bNA]at aDG hv;obtain⟨z,hz,rfl⟩:=aDG;obtain⟨z',aSP,rfl⟩:=hv;rw[hz]at aSP;cases aSP;have gR:=h.ev z;rcases aNU with ⟨k,h1,h2⟩ |⟨h1,h2⟩
     ·rw[bLY]at h2;obtain⟨e,kk,ns,off,n,rfl,h4,_⟩:=Br h1;have e1:g0 i=ρ k:=by rw[hg0];simp only;rw[(aDU _ h2).2]
      refine⟨by rw[e1];exact .inr ⟨k,_,(aNZ _ h2).trans h4,rfl⟩,by rw[e1];exact Sn h gR.1 h1⟩
     ·refine Hv (Yd h1) (Bs h aHJ gR.1 (fun i hi=>?_) h1);rw[hU];exact List.mem_map.2 ⟨i,h2 i hi,rfl⟩) (fun i j hi hj heq=>by
     obtain⟨q,hq,rfl,h1⟩:=pJ i hi;obtain⟨q',Wy,rfl,h2⟩:=pJ j hj;rw[hg0]at heq;simp only[h1,h2]at heq;obtain⟨e1,k1,n1,o1,m1,vP,_⟩:=Ei q hq;obtain⟨e2,k2,n2,o2,m2,aJF,_⟩:=Ei q' Wy;have h3:=h.inj _ _ _ _ vP aJF heq;obtain⟨a1,aWY⟩:=bMU hq;obtain⟨a2,aUU⟩:=bMU Wy;have:=Ce aOF aWY aUU h3;subst this;rw[aWY]at aUU;cases aUU;rfl)
    have eY:(execOp a.eval o).run P w=.ok (.enter f (args.map a.eval).toArray) w:=by
     unfold execOp;rw[ho];simp only[resolve,hf,Deferred.ofValue,Sem.run_bind,Sem.run_pure,Result.andThen_ok,invoke];rw[<-aEA];congr 1;simp
    intro next Q hn;unfold Oper.wp;rw[eY];simp only[Oper.upon_enter];refine aDZ.mono ?_;rintro e w' ⟨vJ,rfl,aOX,⟨g,aZY,aDT,aUH⟩,Xe⟩;simp only;obtain⟨Ly,aDL⟩:∃Ly,Ly=Bz.map (reBack us):=⟨_,rfl⟩;rw[<-aDL]at he;have aLR:Ly.length=Bz.length:=by rw[aDL];simp
    have bBJ:∀{i:Nat} {e:TypeId} {k:IntKind} {ns:List Int},Ly[i]?=some (.own e k ns)->Bz[i]?=some (.own e k ns):=by
     intro i e k ns hi;rw[aDL,bMA]at hi;obtain⟨d,h1,h2⟩:=Option.map_eq_some_iff.1 hi;rw[h1,Tb h2]
    obtain⟨zW,aOK⟩:∃zW,zW=applyUps ub hp:=⟨_,rfl⟩;obtain⟨tI,Mu⟩:∃tI,tI=applyUps (takeAll keep id Ly).2 zW:=⟨_,rfl⟩;obtain⟨ρ2,Ar⟩:∃ρ2:Nat->Nat,ρ2=fun j=>if id<=j/\j<id+8 then g (j-id)else ρ j:=⟨_,rfl⟩
    have vV:∀i,al i->¬(id<=i/\i<id+8):=fun i hi hr=>tW (i-id) (by omega) (by rw[show id+(i-id)=i by omega];exact hi)
    have sF:∀j,tI j=match (if id<=j then Ly[j-id]? else none)with
      |some (.own e k ns)=>if keep=true then some ⟨e,.ints k ns⟩else zW j
      |_=>zW j:=fun j=>by rw[Mu];exact takeAll_ups keep Ly id _ j
    have aYU:nodup (ub.map (·.1))=true:=by rw[aSY];exact aOF
    have aUD:∀q∈us,∃(e:TypeId) (k:IntKind) (ns:List Int) (j:Nat),zW q.2=some ⟨e,.ints k ns⟩/\us[j]?=some q/\∃(o n:Nat),js[j]?=some (D.io e k ns o n):=by
     intro q hq;obtain⟨j,hj⟩:=bMU hq;obtain⟨e,k,ns,o,n,h1,h2⟩:=aYV j q hj;exact⟨e,k,ns,j,by rw[aOK];exact Dw aYU h2,hj,o,n,h1⟩
    have aDP:∀j,j ∉ us.map (·.2)->zW j=hp j:=fun j hj=>by rw[aOK];exact pA (by rw[aSY];exact hj)
    have bAT:∀j b,zW j=some b->al j:=by
     intro j b hb
     by_cases hj:j∈us.map (·.2)
     ·obtain⟨q,hq,rfl⟩:=List.mem_map.1 hj;obtain⟨e,kk,ns,off,n,h1,_⟩:=Ei q hq;exact h.alh _ _ h1
     ·rw[aDP j hj]at hb;exact h.alh _ _ hb
    have aTV:∀j b,zW j=some b->ρ j<w.heap.size:=by
     intro j b hb
     by_cases hj:j∈us.map (·.2)
     ·obtain⟨q,hq,rfl⟩:=List.mem_map.1 hj;obtain⟨e,kk,ns,off,n,h1,_⟩:=Ei q hq;exact h.gX h1
     ·rw[aDP j hj]at hb;exact h.gX hb
    have Qc:∀j,¬al j->zW j=none:=by
     intro j hj;cases hq:zW j with
     |none=>rfl
     |some b=>exact absurd (bAT j b hq) hj
    have pZ:∀j b,tI j=some b->¬al j->∃e k ns,id<=j/\Ly[j-id]?=some (.own e k ns)/\keep=true/\b=⟨e,.ints k ns⟩:=by
     intro j b hj pK;rw[sF]at hj;split at hj
     ·rename_i e k ns hq;split at hj
      ·rename_i hk;cases hj;split at hq
       ·exact⟨e,k,ns,‹_›,hq,hk,rfl⟩
       ·cases hq
      ·rw[Qc j pK]at hj;cases hj
     ·rw[Qc j pK]at hj;cases hj
    have aDK:∀i,al i->tI i=zW i:=by
     intro i hi;rw[sF];split
     ·rename_i e k ns hq;split at hq
      ·exact absurd ⟨‹_›,by have:=aR hq;omega⟩ (vV i hi)
      ·cases hq
     ·rfl
    have Mx:=h.aFS (ρ':=ρ2) (hp':=tI) (al':=lY al id) aOX (fun b hb=>by
      obtain⟨q,hq,rfl⟩:=aMG b hb;obtain⟨e,kk,ns,off,n,h1,_⟩:=Ei q hq;exact⟨q.2,_,h1,rfl⟩) (fun _ h=>.inl h)
     (fun i hi=>by rw[Ar];simp only;rw[if_neg (vV i hi)])
     (fun i b' hi hb=>by
      rw[aDK i hi]at hb
      by_cases hj:i∈us.map (·.2)
      ·obtain⟨q,hq,rfl⟩:=List.mem_map.1 hj;obtain⟨e,kk,ns,off,n,h1,h2⟩:=Ei q hq;obtain⟨e',k',lB,j,h3,h4,o,m,h5⟩:=aUD q hq;rw[h3]at hb;cases hb;have aWO:(p :: ps)[j]?=some q.1:=by rw[<-Pz];simp[h4]
       obtain⟨e1,k1,n1,o1,m1,e2,k2,n2,h6,h7,h8⟩:=aDX.io j q.1 aWO;rw[h2]at h6;cases h6;rw[h5]at h7;cases h7;have aUR:Ol w' (g0 q.1) (D.io e' k' lB 0 0):=Xe j q.1 _ aWO h5;have e0:g0 q.1=ρ q.2:=by rw[hg0];simp only;rw[(aDU q hq).2]
       rw[e0]at aUR;refine .inr ⟨⟨q.1,by rw[<-Pz];exact List.mem_map.2 ⟨q,hq,rfl⟩,e0⟩,_,h1,⟨fun k ns he=>?_,fun cs he=>by cases he⟩,fun Y=>aUR⟩;cases he;exact⟨_,_,rfl,h8.symm⟩
      ·rw[aDP i hj]at hb;refine .inl ⟨fun hm=>?_,hb⟩;obtain⟨q,hq,h1⟩:=aMG _ hm;obtain⟨e,kk,ns,off,n,h2,_⟩:=Ei q hq;have:=h.inj _ _ _ _ h2 hb h1;subst this;exact hj (List.mem_map.2 ⟨q,hq,rfl⟩))
     (fun j b hj pK=>by
      obtain⟨e,k,ns,h1,h2,h3,rfl⟩:=pZ j b hj pK;have iN:=aR h2;obtain⟨v,hv⟩:=aY (l:=vJ) (i:=j-id) (by omega);obtain⟨arr,cap,_,yP,hw,h4,aOY,h5,h6⟩:=aUH (j-id) _ v (bBJ h2) hv;have e1:ρ2 j=g (j-id):=by rw[Ar];simp only;rw[if_pos ⟨h1,by omega⟩]
      exact⟨.inr ⟨h1,by omega⟩,by rw[e1];exact yP,fun Y=>⟨arr,by rw[e1];exact hw,bMS h4 aOY,h6⟩⟩)
     (fun i j b c hi hj bAV bAU e=>by
      obtain⟨e1,k1,Sa,h1,h2,h3,_⟩:=pZ i b hi bAV;obtain⟨e2,k2,bGR,h4,h5,h6,_⟩:=pZ j c hj bAU;have l1:=aR h2;have l2:=aR h5;rw[Ar]at e;simp only at e;rw[if_pos ⟨h1,by omega⟩,if_pos ⟨h4,by omega⟩]at e;have:=aDT _ _ _ _ (bBJ h2) (bBJ h5) rfl rfl e;omega)
    obtain⟨Tn,aZR⟩:=Mx;have aZB:∀{i:Nat} {d:D},Bz[i]?=some d->shares d=false:=by
     intro i d hi;cases hs:shares d with
     |false=>rfl
     |true =>
      have:Bz.any shares=true:=List.any_eq_true.2 ⟨d,bMF hi,hs⟩;rw[this]at aTL;cases aTL
    have Tp:∀(i:Nat) (d:D) (v:Value),Bz[i]?=some d->vJ[i]?=some v->Bk ρ2 tI (XO X ρ2 tI) w' (takeIn keep (id+i) (reBack us d)).1 v/\∀j∈refsV (takeIn keep (id+i) (reBack us d)).1,lY al id j:=by
     intro i d v hi hv;have aUG:Ly[i]?=some (reBack us d):=by rw[aDL,bMA,hi];rfl
     have hg:=aUH i d v hi hv;have bIZ:=aR hi;have aQN:=aZB hi;cases d with
     |own e k ns =>
      obtain⟨arr,cap,rfl,yP,hw,h4,aOY,h5,h6⟩:=hg;have aZK:¬X (g i):=fun hx=>by have:=Old.Po (h.x0 _ hx);have:=h.below.size;omega
      cases keep with
      |true =>
       have e1:ρ2 (id+i)=g i:=by rw[Ar];simp only;rw[if_pos ⟨by omega,by omega⟩];congr 1;omega
       refine⟨⟨cap,by rw[e1],h4,fun blk k1 Sa hb hk=>?_,fun blk cs hb hk=>?_⟩,fun j hj=>?_⟩
       rotate_left
       ·rw[sF,aT,show id+i-id=i by omega,aUG]at hb;simp only[reBack,if_true]at hb;cases hb;cases hk
       rotate_left
       ·rw[sF,aT,show id+i-id=i by omega,aUG]at hb;simp only[reBack,if_true]at hb;cases hb;cases hk;exact⟨rfl,h5,by rw[e1];unfold jQ;rw[hw];exact aOY⟩
       ·simp only[reBack,takeIn,cond_true,refsV,refsL,bMN]at hj;subst hj;exact .inr ⟨by omega,by omega⟩
      |false =>
       refine⟨⟨_,cap,rfl,h4,fun j n hj=>⟨g i,0,rfl,(Array.getElem?_eq_some_iff.1 hw).1,?_,?_⟩⟩,fun j hj=>by simp[reBack,takeIn,refsV,refsL]at hj⟩
       ·rintro (hx |⟨j',bl,h7,h8⟩)
        ·exact aZK hx
        ·by_cases Jj:al j'
         ·rw[aDK j' Jj]at h7;have:=aTV _ _ h7;have e2:ρ2 j'=ρ j':=by rw[Ar];simp only;rw[if_neg (vV j' Jj)]
          omega
         ·obtain⟨_,_,_,_,_,hk,_⟩:=pZ j' bl h7 Jj;cases hk
       ·rw[bLY,cell_of_row w' (g i) j arr e (0,0) hw];exact h6 j n hj
     |s x=>exact⟨lK.any (d:=.s x) aQN rfl hg,fun j hj=>by simp[reBack,takeIn,refsV,refsL]at hj⟩
     |rows sz n f=>cases aQN
     |agg cs=>exact⟨lK.any (d:=.agg cs) aQN rfl hg,fun j hj=>by simp[reBack,takeIn,refsV]at hj⟩
     |io=>cases aQN
     |back p0 off n =>
      obtain⟨j,e,k,ns,h1,h2,h3⟩:=hg;obtain⟨q,hq,rfl,h4⟩:=pJ p0 (bMF h1);have aZW:idAt us q.1=q.2:=(Ww (fun q hq=>(aDU q hq).2) hq).trans h4;obtain⟨e0,kk,ns0,off0,n0,hb0,_⟩:=Ei q hq;have aOV:=h.alh _ _ hb0;have e1:ρ2 q.2=g0 q.1:=by rw[Ar,hg0];simp only;rw[if_neg (vV _ aOV),h4]
      obtain⟨o',cap,h5,h6,h7,h8,h9,bFG,bKV⟩:=h3;simp only[reBack,aZW,takeIn];refine⟨⟨o',cap,by rw[e1];exact h5,h6,h7,h8,fun blk k1 Sa hb hk=>?_⟩,fun j hj=>?_⟩
      ·rw[aDK _ aOV]at hb;obtain⟨e',k',lB,j',bKU,bKT,o,m,bKS⟩:=aUD q hq;rw[bKU]at hb;cases hb;cases hk;have aWO:(p :: ps)[j']?=some q.1:=by rw[<-Pz];simp[bKT]
       have bIU:j=j':=by
        have f1:((us.map (·.1)).map gid)[j]?=some q.2:=by rw[Pz,bMA,h1];simp[h4]
        have f2:((us.map (·.1)).map gid)[j']?=some q.2:=by rw[Pz,bMA,aWO];simp[h4]
        have f3:(us.map (·.1)).map gid=us.map (·.2):=by
         rw[List.map_map];exact bNM fun q hq=>(aDU q hq).2
        have aTN:nodup ((us.map (·.2)).map fun x=>x)=true:=by rw[List.map_id'];exact aOF
        rw[f3]at f1 f2;exact Ce aTN f1 f2 rfl
       subst bIU;rw[bKS]at h2;cases h2;exact⟨h9,bFG,by rw[e1];exact bKV⟩
      ·simp only[refsV,refsL,bMN]at hj;subst hj;exact .inl aOV
    have Dq:(takeAll keep id Ly).1.length=vJ.length:=by rw[wC,aLR];exact aZY
    have hval:∀(i:Nat) (y:V) (v:Value),(takeAll keep id Ly).1[i]?=some y->vJ[i]?=some v->Bk ρ2 tI (XO X ρ2 tI) w' y v/\∀j∈refsV y,lY al id j:=by
     intro i y v hy hv;obtain⟨d,Dr⟩:=aY (l:=Bz) (i:=i) (by have:=aR hv;omega);rw[wF keep Ly id i (reBack us d) (by rw[aDL,bMA,Dr];rfl)]at hy;cases hy;exact Tp i d v Dr hv
    have qB:∀(y:A),vI ρ2 tI (XO X ρ2 tI) w' y (resV vJ)->(∀j∈refs y,lY al id j)->some (y,ub ++ (takeAll keep id Ly).2)=some (x,u)->next (a.put o.dst (resV vJ)) w':=by
     intro y hy aYL heq;obtain⟨e1,e2⟩:=Prod.mk.inj (Option.some.inj heq);refine hn ρ2 (resV vJ) w' ?_;rw[<-e1,<-e2,jB,<-aOK,<-Mu];exact Tn.pure hd hy aYL
    match aYR:vJ,Dq,hval,qB with
    | [v],Dq,hval,qB =>
     match ht:(takeAll keep id Ly).1,Dq with
     | [y],_ =>
      rw[ht]at he hval;obtain⟨h1,h2⟩:=hval 0 y v rfl rfl;exact qB (.v y) h1 h2 he
    | [],Dq,hval,qB =>
     match ht:(takeAll keep id Ly).1,Dq with
     | [],_ =>
      rw[ht]at he;exact qB (.It []) ⟨#[],rfl,rfl,fun i y v hy=>by simp at hy⟩ (by simp[refs]) he
    |v1 :: v2 :: vr,Dq,hval,qB =>
     match ht:(takeAll keep id Ly).1,Dq with
     |y1 :: y2 :: yr,Dq =>
      rw[ht]at he hval;refine qB (.It (y1 :: y2 :: yr)) ⟨(v1 :: v2 :: vr).toArray,rfl,by simpa using Dq,fun i y v hy hv=>(hval i y v hy (by simpa using hv)).1⟩ ?_ he;intro j hj;obtain⟨y,hy,hj⟩:=List.mem_flatMap.1 hj;obtain⟨i,hi⟩:=bMU hy;obtain⟨v,hv⟩:=aY (l:=v1 :: v2 :: vr) (i:=i) (by have:=aR hi;omega);exact(hval i y v hi hv).2 j hj
theorem aEZ(h:gV E X w0 ρ al fr hp a w)(hd:gY E.nt o=true)(hC:iT P E)(tW:∀j,j<8->¬al (id+j)){fo:Operand}{args:Array Operand}{uI:Array TypeId}(ho:o.op=.call ⟨.value fo,args,uI⟩)(he:oX E id o (evA E fr) hp=some (x,u)):Nx P E X w0 al fr hp a w o id x u:=by
 obtain⟨args⟩:=args;unfold oX effK at he;rw[ho]at he;simp only at he;split at he
 case h_2=>cases he
 rename_i f aWR;have hf:a.eval fo=.func (.func f) #[] #[]:=by
  have hz:=(h.ev fo).1;unfold funOf at aWR;split at aWR
  ·rename_i f' gR;cases aWR;rw[gR]at hz;exact hz.1
  ·cases aWR
 split at he
 ·rename_i gx vs aUT;obtain⟨bJE,he⟩:=Hh he;exact(aJP h hd hC hf ho aUT bJE he).step
 split at he
 case h_2=>exact eff_callIO h hd hC tW hf ho ‹_› he
 rename_i aZU;simp only[callK,Af]at he;generalize keepOf E o=keep at he;split at he
 ·cases he
 ·rename_i ds aQU;split at he
  ·cases he
  ·rename_i gd rs aTE;obtain⟨aQR,he⟩:=Hh he;cases Qf:bLZ rs.length 8 with
   |false=>rw[Qf]at he;cases he
   |true =>
   rw[Qf]at he;simp only[cond_true]at he;have Qf:rs.length<=8:=bNU Qf;obtain⟨aDX,aEA⟩:=hC.c f ds gd rs aZU aTE aQR;obtain⟨U,hU⟩:∃U,U=Uq (args.map (evA E fr)):=⟨_,rfl⟩;have aHJ:Cons U:=by rw[hU];exact Rf _
   have hY:∀b,XO X ρ (applyUps U hp) b->b<w.heap.size:=by
    rintro b (hb |⟨i,bl,h1,h2⟩)
    ·have:=Old.Po (h.x0 b hb);have:=h.below.size;omega
    ·have:=h.gX (fK aHJ h1);omega
   have hG:GlobOk E.glob (XO X ρ (applyUps U hp)) w:=by
    intro g k ns hg;obtain⟨h1,h2,h3⟩:=h.My g k ns hg;exact⟨h1,fun ho=>h2 (ho.imp (fun h=>h) (aHM.of_cons aHJ)),h3.later (fV.cons aHJ)⟩
   have aLV:ds.length=args.length:=by have:=wP aQU;simpa using this
   have aDZ:=aDX (XO X ρ (applyUps U hp)) w (args.map a.eval) hY hG (by simp[aLV]) (fun i d v hi hv=>by
    obtain⟨y,aDG,aNU⟩:=Pt aQU i d hi;simp only[bMA,bNA]at aDG hv;obtain⟨z,hz,rfl⟩:=aDG;obtain⟨z',aSP,rfl⟩:=hv;rw[hz]at aSP;cases aSP;have gR:=h.ev z;refine Bs h aHJ gR.1 (fun i hi=>?_) aNU;rw[hU];exact Tg (List.mem_map.2 ⟨z,bMF hz,rfl⟩) hi)
   have eY:(execOp a.eval o).run P w=.ok (.enter f (args.map a.eval).toArray) w:=by
    unfold execOp;rw[ho];simp only[resolve,hf,Deferred.ofValue,Sem.run_bind,Sem.run_pure,Result.andThen_ok,invoke];rw[<-aEA];congr 1;simp
   intro next Q hn;unfold Oper.wp;rw[eY];simp only[Oper.upon_enter];refine aDZ.mono ?_;rintro e w' ⟨vJ,rfl,aOX,g,aZY,aDT,aUH⟩;simp only;obtain⟨U',bKI,bKE⟩:∃U',Cons U'/\(bif rs.any shares then(List.flatMap refs (args.map (evA E fr))).map fun i=>((i,none):Nat×Option iM)else [])=U'/\(∀i,i∈U'.map (·.1)->i∈U.map (·.1)):=by
    cases aZC:rs.any shares with
    |true=>exact⟨U,aHJ,by rw[hU];rfl,fun _ h=>h⟩
    |false=>exact⟨[],(fun p hp=>by cases hp),rfl,fun i hi=>by cases hi⟩
   obtain⟨aOW,hUsub⟩:=bKE;rw[aOW]at he;have h0:=h.cons bKI;obtain⟨tI,Mu⟩:∃tI,tI=applyUps (takeAll keep id rs).2 (applyUps U' hp):=⟨_,rfl⟩;obtain⟨ρ2,Ar⟩:∃ρ2:Nat->Nat,ρ2=fun j=>if id<=j/\j<id+8 then g (j-id)else ρ j:=⟨_,rfl⟩
   have vV:∀i,al i->¬(id<=i/\i<id+8):=fun i hi hr=>tW (i-id) (by omega) (by rw[show id+(i-id)=i by omega];exact hi)
   have sF:∀j,tI j=match (if id<=j then rs[j-id]? else none)with
     |some (.own e k ns)=>if keep=true then some ⟨e,.ints k ns⟩else applyUps U' hp j
     |_=>applyUps U' hp j:=fun j=>by rw[Mu];exact takeAll_ups keep rs id _ j
   have Qc:∀j,¬al j->applyUps U' hp j=none:=by
    intro j hj;cases hq:applyUps U' hp j with
    |none=>rfl
    |some b=>exact absurd (h0.alh j b hq) hj
   have pZ:∀j b,tI j=some b->¬al j->∃e k ns,id<=j/\rs[j-id]?=some (.own e k ns)/\keep=true/\b=⟨e,.ints k ns⟩:=by
    intro j b hj pK;rw[sF]at hj;split at hj
    ·rename_i e k ns hq;split at hj
     ·rename_i hk;cases hj;split at hq
      ·exact⟨e,k,ns,‹_›,hq,hk,rfl⟩
      ·cases hq
     ·rw[Qc j pK]at hj;cases hj
    ·rw[Qc j pK]at hj;cases hj
   have Mx:=h0.called (ρ':=ρ2) (hp':=tI) (al':=lY al id) aOX (fun _ h=>.inl h)
    (fun i hi=>by
     refine⟨by rw[Ar];simp only;rw[if_neg (vV i hi)],?_⟩;rw[sF];split
     ·rename_i e k ns hq;split at hq
      ·exact absurd ⟨‹_›,by have:=aR hq;omega⟩ (vV i hi)
      ·cases hq
     ·rfl)
    (fun j b hj pK=>by
     obtain⟨e,k,ns,h1,h2,h3,rfl⟩:=pZ j b hj pK;have iN:=aR h2;obtain⟨v,hv⟩:=aY (l:=vJ) (i:=j-id) (by omega);obtain⟨arr,cap,_,yP,hw,h4,aOY,h5,h6⟩:=aUH (j-id) _ v h2 hv;have e1:ρ2 j=g (j-id):=by rw[Ar];simp only;rw[if_pos ⟨h1,by omega⟩]
     exact⟨.inr ⟨h1,by omega⟩,by rw[e1];exact yP,fun Y=>⟨arr,by rw[e1];exact hw,bMS h4 aOY,h6⟩⟩)
    (fun i j b c hi hj bAV bAU e=>by
     obtain⟨e1,k1,Sa,h1,h2,h3,_⟩:=pZ i b hi bAV;obtain⟨e2,k2,bGR,h4,h5,h6,_⟩:=pZ j c hj bAU;have l1:=aR h2;have l2:=aR h5;rw[Ar]at e;simp only at e;rw[if_pos ⟨h1,by omega⟩,if_pos ⟨h4,by omega⟩]at e;have:=aDT _ _ _ _ h2 h5 rfl rfl e;omega)
   obtain⟨Tn,aZR⟩:=Mx;have aOR:∀{i:Nat} (d:D) (v:Value),rs[i]?=some d->iV d=false->lK (fun b=>XO X ρ (applyUps U hp) b\/∃(j:Nat) (d':D),rs[j]?=some d'/\iV d'=true/\g j=b) w' d v->lK (XO X ρ2 tI) w' d v:=by
    intro i d v hi ho hr;cases aZC:shares d with
    |false=>exact hr.any aZC ho
    |true =>
     have Au:rs.any shares=true:=List.any_eq_true.2 ⟨d,bMF hi,aZC⟩;have bKG:U'=U:=by
      rw[Au]at aOW;rw[<-aOW,hU];rfl
     refine hr.later ⟨bLW _,fun b _ hx=>⟨rfl,fun hb=>hx ?_⟩⟩;rcases hb with hb |⟨j,bl,h7,h8⟩
     ·exact .inl (.inl hb)
     ·by_cases Jj:al j
      ·have h9:applyUps U' hp j=some bl:=by
        rw[<-h7,sF];split
        ·rename_i e k ns hq;split at hq
         ·exact absurd ⟨‹_›,by have:=aR hq;omega⟩ (vV j Jj)
         ·cases hq
        ·rfl
       have e2:ρ2 j=ρ j:=by rw[Ar];simp only;rw[if_neg (vV j Jj)]
       exact .inl (.inr ⟨j,bl,by rw[<-bKG];exact h9,by rw[<-e2];exact h8⟩)
      ·obtain⟨e,k,ns,h1,h2,h3,rfl⟩:=pZ j bl h7 Jj;have iN:=aR h2;refine .inr ⟨j-id,_,h2,rfl,?_⟩;rw[Ar]at h8;simp only at h8;rw[if_pos ⟨h1,by omega⟩]at h8;exact h8
   have Tp:∀(i:Nat) (d:D) (v:Value),rs[i]?=some d->vJ[i]?=some v->Bk ρ2 tI (XO X ρ2 tI) w' (takeIn keep (id+i) d).1 v/\∀j∈refsV (takeIn keep (id+i) d).1,lY al id j:=by
    intro i d v hi hv;have hg:=aUH i d v hi hv;have bIZ:=aR hi;cases d with
    |own e k ns =>
     obtain⟨arr,cap,rfl,yP,hw,h4,aOY,h5,h6⟩:=hg;have aZK:¬X (g i):=fun hx=>by have:=Old.Po (h.x0 _ hx);have:=h.below.size;omega
     cases keep with
     |true =>
      have e1:ρ2 (id+i)=g i:=by rw[Ar];simp only;rw[if_pos ⟨by omega,by omega⟩];congr 1;omega
      refine⟨⟨cap,by rw[e1],h4,fun blk k1 Sa hb hk=>?_,fun blk cs hb hk=>?_⟩,fun j hj=>?_⟩
      rotate_left
      ·rw[sF,aT,show id+i-id=i by omega,hi]at hb;simp only[if_true]at hb;cases hb;cases hk
      rotate_left
      ·rw[sF,aT,show id+i-id=i by omega,hi]at hb;simp only[if_true]at hb;cases hb;cases hk;exact⟨rfl,h5,by rw[e1];unfold jQ;rw[hw];exact aOY⟩
      ·simp only[takeIn,cond_true,refsV,refsL,bMN]at hj;subst hj;exact .inr ⟨by omega,by omega⟩
     |false =>
      refine⟨⟨_,cap,rfl,h4,fun j n hj=>⟨g i,0,rfl,(Array.getElem?_eq_some_iff.1 hw).1,?_,?_⟩⟩,fun j hj=>by simp[takeIn,refsV,refsL]at hj⟩
      ·rintro (hx |⟨j',bl,h7,h8⟩)
       ·exact aZK hx
       ·by_cases Jj:al j'
        ·have:tI j'=applyUps U' hp j':=by
          rw[sF];split
          ·simp
          ·rfl
         rw[this]at h7;have:=h0.gX h7;have e2:ρ2 j'=ρ j':=by rw[Ar];simp only;rw[if_neg (vV j' Jj)]
         omega
        ·obtain⟨_,_,_,_,_,hk,_⟩:=pZ j' bl h7 Jj;cases hk
      ·rw[bLY,cell_of_row w' (g i) j arr e (0,0) hw];exact h6 j n hj
    |s x=>exact⟨aOR _ v hi rfl hg,fun j hj=>by simp[takeIn,refsV,refsL]at hj⟩
    |rows sz n f=>exact⟨aOR _ v hi rfl hg,fun j hj=>by simp[takeIn,refsV,refsL]at hj⟩
    |agg cs=>exact⟨aOR _ v hi rfl hg,fun j hj=>by simp[takeIn,refsV]at hj⟩
    |io=>exact hg.elim
    |back=>exact hg.elim
   have Dq:(takeAll keep id rs).1.length=vJ.length:=by rw[wC];exact aZY
   have hval:∀(i:Nat) (y:V) (v:Value),(takeAll keep id rs).1[i]?=some y->vJ[i]?=some v->Bk ρ2 tI (XO X ρ2 tI) w' y v/\∀j∈refsV y,lY al id j:=by
    intro i y v hy hv;obtain⟨d,Dr⟩:=aY (l:=rs) (i:=i) (by have:=aR hv;omega);rw[wF keep rs id i d Dr]at hy;cases hy;exact Tp i d v Dr hv
   have qB:∀(y:A),vI ρ2 tI (XO X ρ2 tI) w' y (resV vJ)->(∀j∈refs y,lY al id j)->some (y,U' ++ (takeAll keep id rs).2)=some (x,u)->next (a.put o.dst (resV vJ)) w':=by
    intro y hy aYL heq;obtain⟨e1,e2⟩:=Prod.mk.inj (Option.some.inj heq);refine hn ρ2 (resV vJ) w' ?_;rw[<-e1,<-e2,jB,<-Mu];exact Tn.pure hd hy aYL
   match aYR:vJ,Dq,hval,qB with
   | [v],Dq,hval,qB =>
    match ht:(takeAll keep id rs).1,Dq with
    | [y],_ =>
     rw[ht]at he hval;obtain⟨h1,h2⟩:=hval 0 y v rfl rfl;exact qB (.v y) h1 h2 he
   | [],Dq,hval,qB =>
    match ht:(takeAll keep id rs).1,Dq with
    | [],_ =>
     rw[ht]at he;exact qB (.It []) ⟨#[],rfl,rfl,fun i y v hy=>by simp at hy⟩ (by simp[refs]) he
   |v1 :: v2 :: vr,Dq,hval,qB =>
    match ht:(takeAll keep id rs).1,Dq with
    |y1 :: y2 :: yr,Dq =>
     rw[ht]at he hval;refine qB (.It (y1 :: y2 :: yr)) ⟨(v1 :: v2 :: vr).toArray,rfl,by simpa using Dq,fun i y v hy hv=>(hval i y v hy (by simpa using hv)).1⟩ ?_ he;intro j hj;obtain⟨y,hy,hj⟩:=List.mem_flatMap.1 hj;obtain⟨i,hi⟩:=bMU hy;obtain⟨v,hv⟩:=aY (l:=v1 :: v2 :: vr) (i:=i) (by have:=aR hi;omega);exact(hval i y v hi hv).2 j hj
theorem Sq(h:gV E X w0 ρ al fr hp a w)(hd:gY E.nt o=true)(hT:mG P E.T)(hC:iT P E)(tW:∀j,j<8->¬al (id+j))(he:oX E id o (evA E fr) hp=some (x,u)):Nx P E X w0 al fr hp a w o id x u:=by
 have yL:=he;unfold oX effK at he;split at he
 ·exact(Qs h hd (.inl ‹_›) yL).step
 ·exact(Qs h hd (.inr ‹_›) yL).step
 ·exact(aEW h hd ‹_› yL).step
 ·exact(Zs h hd hT tW ‹_› yL).step
 ·exact(aJQ h hd tW ‹_› yL).step
 ·exact(Zq h hd hT ‹_› yL).step
 ·exact(Hl h hd hT tW ‹_› yL).step
 ·exact(aEX h hd hT ‹_› yL).step
 ·exact(Zm h hd hT ‹_› yL).step
 ·exact(Zr h hd hT ‹_› yL).step
 ·exact(aEV h hd ‹_› yL).step
 ·exact(Qu h hd hT ‹_› yL).step
 ·exact(Jn h hd hT tW ‹_› yL).step
 ·exact(Zn h hd hT ‹_› yL).step
 ·exact(Jp h hd hT ‹_› yL).step
 ·exact(Zp h hd hT ‹_› yL).step
 ·exact(Jo h hd hT ‹_› yL).step
 ·exact(Zo h hd hT ‹_› yL).step
 ·exact(Qt h hd ‹_› yL).step
 ·exact aEZ h hd hC tW ‹_› yL
 ·rename_i b args uI ho;have hb:=he;unfold builtinK at hb;split at hb
  ·exact(aJO h hd hT ho yL).step
  ·exact(Hk h hd (.inl rfl) ho yL).step
  ·exact(Hk h hd (.inr rfl) ho yL).step
  ·exact(Ud h hd hT tW ho yL).step
  ·exact(aEY h hd hT ho yL).step
  ·cases hb
 ·cases he
end
end AI
namespace AI
open Go Go.RowKit
section
variable {hp hp':Nat->Option iM}
theorem wZ{x:A}(h:∀i∈refs x,hp i=hp' i):cellsOf hp x=cellsOf hp' x:=by
 unfold cellsOf;split
 ·rfl
 ·rfl
 ·rw[h _ (by simp[refs,refsV,refsL])]
 ·rw[h _ (by simp[refs,refsV,refsL])]
 ·rfl
theorem Vo{x:A}(h:∀i∈refs x,hp i=hp' i):toD hp x=toD hp' x:=by
 unfold toD;split
 ·rfl
 ·rfl
 ·rfl
 ·rw[h _ (by simp[refs,refsV,refsL])]
 ·rw[h _ (by simp[refs,refsV,refsL])]
 ·rfl
theorem Gy{k:IntKind}{x:A}(h:∀i∈refs x,hp i=hp' i):intsOf hp k x=intsOf hp' k x:=by
 unfold intsOf;split
 ·rfl
 ·rfl
 ·rw[h _ (by simp[refs,refsV,refsL])]
 ·rw[h _ (by simp[refs,refsV,refsL])]
 ·rfl
theorem Aq{R:Type}{t:TI}{nP:Nat}{x:A}{n:Int}{K:A->Option R}(h:∀i∈refs x,hp i=hp' i):idxK hp t nP x n K=idxK hp' t nP x n K:=by
 unfold idxK;split
 ·rfl
 ·rw[h _ (by simp[refs,refsV,refsL])]
 ·rw[h _ (by simp[refs,refsV,refsL])]
 ·rfl
 ·rfl
 ·rfl
 ·rfl
theorem aDE{R:Type}{sh:Bool}{t:TI}{nP:Nat}{x:A}{n:Int}{K:A->Option R}(h:∀i∈refs x,hp i=hp' i):Mo sh hp t nP x n K=Mo sh hp' t nP x n K:=by
 unfold Mo;split
 ·rw[h _ (by simp[refs,refsV,refsL])];simp only[Aq h]
 ·exact Aq h
theorem Mh{xs:List A}(h:∀x∈xs,∀i∈refs x,hp i=hp' i):xs.mapM (toD hp)=xs.mapM (toD hp'):=by
 induction xs with
 |nil=>rfl
 |cons x xs ih=>rw[bND,bND,Vo (h x (by simp)),ih (fun y hy=>h y (by simp[hy]))]
theorem Co{R:Type}{place:Nat->Option (Nat×Nat)}{ev Jl:Operand->A}{parts:List (Nat×Operand)}{cs:List S}{u:nZ}{K:List S->nZ->Option R}
  (he:∀p∈parts,ev p.2=Jl p.2) (h:∀p∈parts,∀i∈refs (ev p.2),hp i=hp' i):fillK hp place ev parts cs u K=fillK hp' place Jl parts cs u K:=by
 induction parts generalizing cs u with
 |nil=>rfl
 |cons p rest ih =>
  obtain⟨i,y⟩:=p;have e1:ev y=Jl y:=he (i,y) (by simp);have e2:cellsOf hp (ev y)=cellsOf hp' (Jl y):=by rw[wZ (h (i,y) (by simp)),e1]
  simp only[fillK,e2];split
  ·split
   ·exact ih (fun p hp=>he p (by simp[hp])) (fun p hp=>h p (by simp[hp]))
   ·rfl
  ·rfl
end
theorem Zx{R:Type}{E:Env}{id:Nat}{keep:Bool}{f:FuncId}{args:List A}{hp hp':Nat->Option iM}{K:A->nZ->Option R}(h:∀x∈args,∀i∈refs x,hp i=hp' i) :
  callK E id keep f args hp K=callK E id keep f args hp' K:=by
 unfold callK;rw[Mh h]
theorem aBF{hp hp':Nat->Option iM}{x:A}(h:∀i∈refs x,hp i=hp' i):toIO hp x=toIO hp' x:=by
 unfold toIO;split
 ·rw[h _ (by simp[refs,refsV,refsL])]
 ·rw[h _ (by simp[refs,refsV,refsL])]
 ·rfl
theorem Hu{hp hp':Nat->Option iM}(ps:List Nat):∀{args:List A} (i:Nat),(∀x∈args,∀i∈refs x,hp i=hp' i)->argsIO ps hp i args=argsIO ps hp' i args
 | [],_,_=>rfl
 |x :: args,i,h=>by
  unfold argsIO;rw[aBF (h x (by simp)),Vo (h x (by simp)),Hu ps (i+1) (fun y hy=>h y (by simp[hy]))]
theorem Uk{R:Type}{E:Env}{ps:List Nat}{id:Nat}{keep:Bool}{f:FuncId}{args:List A}{hp hp':Nat->Option iM}{K:A->nZ->Option R}(h:∀x∈args,∀i∈refs x,hp i=hp' i) :
  callIO E ps id keep f args hp K=callIO E ps id keep f args hp' K:=by
 unfold callIO;rw[Hu ps 0 h]
theorem Nt{R:Type}{n0 id:Nat}{e:TypeId}{te:TI}{s x:A}{hp hp':Nat->Option iM}{K:A->nZ->Option R}(hs:∀i∈refs s,hp i=hp' i)(hx:∀i∈refs x,hp i=hp' i) :
  nF n0 id e te s x hp K=nF n0 id e te s x hp' K:=by
 unfold nF;split
 ·rw[hx _ (by simp[refs,refsV,refsL])];split
  ·split
   ·split
    ·rw[hs _ (by simp[refs,refsV,refsL])]
    ·rfl
    ·rfl
   ·rfl
  ·rfl
 ·rfl
theorem Nm{R:Type}{E:Env}{id:Nat}{b:Builtin}{args:List A}{uI:List TypeId}{hp hp':Nat->Option iM}{K:A->nZ->Option R}(h:∀x∈args,∀i∈refs x,hp i=hp' i) :
  builtinK E id b args uI hp K=builtinK E id b args uI hp' K:=by
 unfold builtinK;split
 ·rfl
 ·rfl
 ·rfl
 ·rename_i s x t t';split
  ·split
   ·split
    ·split
     ·rw[Gy (h x (by simp))];split
      ·rename_i i n ms hq;rw[h (.v (.one (.buf i n))) (by simp) i (by simp[refs,refsV,refsL])]
      ·rfl
      ·rfl
     ·rfl
    ·exact Nt (h s (by simp)) (h x (by simp))
    ·rfl
   ·rfl
  ·rfl
 ·rename_i d s t t';split
  ·split
   ·rw[Gy (h s (by simp))];split
    ·rename_i i n ms hq;rw[h (.v (.one (.buf i n))) (by simp) i (by simp[refs,refsV,refsL])]
    ·rename_i i off n ms hq;rw[h (.v (.one (.view i off n))) (by simp) i (by simp[refs,refsV,refsL])]
    ·rfl
   ·rfl
  ·rfl
 ·rfl
theorem tF{α β:Type}{f g:α->β}{o:Option α}(h:∀x,o=some x->f x=g x):o.map f=o.map g:=by
 cases o with
 |none=>rfl
 |some x=>simp[h x rfl]
theorem aFA{R:Type}{E:Env}{id:Nat}{o:Oper}{ev Jl:Operand->A}{hp hp':Nat->Option iM}{K:A->nZ->Option R}(he:∀x,x∈o.op.operands.toList->ev x=Jl x)(h:∀x,x∈o.op.operands.toList->∀i∈refs (ev x),hp i=hp' i) :
  effK E id o ev hp K=effK E id o Jl hp' K:=by
 unfold effK;split <;> rename_i ho <;> (try rw[ho]at he h)
 ·rw[he _ (by simp[Op.operands])]
 ·rw[he _ (by simp[Op.operands])]
 ·rw[he _ (by simp[Op.operands]),he _ (by simp[Op.operands]),he _ (by simp[Op.operands])]
 ·rw[wZ (h _ (by simp[Op.operands])),he _ (by simp[Op.operands])]
 ·have e1:∀p∈(‹Array (Nat×Operand)›).toList,p.2∈(‹Array (Nat×Operand)›).toList.map (·.2):=fun p hp=>List.mem_map.2 ⟨p,hp,rfl⟩
  split
  ·exact Co (fun p hp=>he _ (by simpa [Op.operands] using e1 p hp)) (fun p hp=>h _ (by simpa [Op.operands] using e1 p hp))
  ·exact Co (fun p hp=>he _ (by simpa [Op.operands] using e1 p hp)) (fun p hp=>h _ (by simpa [Op.operands] using e1 p hp))
  ·rfl
 ·have e1:∀p∈(‹Array (Nat×Operand)›).toList,p.2∈(‹Array (Nat×Operand)›).toList.map (·.2):=fun p hp=>List.mem_map.2 ⟨p,hp,rfl⟩
  split
  ·split
   ·split
    ·exact Co (fun p hp=>he _ (by simpa [Op.operands] using e1 p hp)) (fun p hp=>h _ (by simpa [Op.operands] using e1 p hp))
    ·rfl
   ·rfl
  ·rfl
 ·rename_i t y;have e1:ev y=Jl y:=he _ (by simp[Op.operands]);have e2:=h y (by simp[Op.operands]);split
  ·rw[<-e1];split
   ·rename_i i off gR;rw[e2 i (by rw[gR];simp[refs,refsV,refsL])]
   ·rename_i i j gR;rw[e2 i (by rw[gR];simp[refs,refsV,refsL])]
   ·rfl
   ·rfl
  ·rfl
 ·rename_i t y z;have e1:ev y=Jl y:=he _ (by simp[Op.operands]);have e3:ev z=Jl z:=he _ (by simp[Op.operands]);have e2:=h y (by simp[Op.operands]);have e4:cellsOf hp (ev z)=cellsOf hp' (Jl z):=by rw[wZ (h z (by simp[Op.operands])),e3]
  split
  ·rw[<-e1,e4,<-e3];split
   ·rename_i i off gR;rw[e2 i (by rw[gR];simp[refs,refsV,refsL])]
   ·rename_i i j gR;rw[e2 i (by rw[gR];simp[refs,refsV,refsL])]
   ·rfl
  ·rfl
 ·rw[he _ (by simp[Op.operands]),he _ (by simp[Op.operands])]
 ·rw[he _ (by simp[Op.operands])]
 ·rw[he _ (by simp[Op.operands])]
 ·rw[he _ (by simp[Op.operands]),he _ (by simp[Op.operands])]
 ·rename_i t y lo hi mx;have e1:ev y=Jl y:=he _ (by simp[Op.operands]);have e2:lo.map ev=lo.map Jl:=tF fun x hx=>he x (by subst hx;simp[Op.operands])
  have e3:hi.map ev=hi.map Jl:=tF fun x hx=>he x (by subst hx;simp[Op.operands])
  have e4:mx.map ev=mx.map Jl:=tF fun x hx=>he x (by subst hx;simp[Op.operands])
  rw[e1,e2,e3,e4]
 ·rw[he _ (by simp[Op.operands])]
 ·rw[he _ (by simp[Op.operands])]
 ·rename_i t y z;have e1:ev y=Jl y:=he _ (by simp[Op.operands]);have e3:ev z=Jl z:=he _ (by simp[Op.operands]);have e2:=h y (by simp[Op.operands]);rw[<-e1,e3];split
  ·split
   ·split
    ·split
     ·rfl
     ·rfl
     ·exact aDE e2
    ·rfl
   ·split
    ·rename_i gR;exact Aq (by rw[gR]at e2;exact e2)
    ·exact Aq (by intro i hi;cases hi)
    ·rfl
   ·rfl
  ·rfl
 ·rw[he _ (by simp[Op.operands]),he _ (by simp[Op.operands])]
 ·rw[he _ (by simp[Op.operands])]
 ·rename_i f args uI;have e1:args.toList.map ev=args.toList.map Jl:=bNM fun x hx=>he x (by simp[Op.operands,Call.operands];exact .inr (by simpa using hx))
  have e0:ev f=Jl f:=he f (by simp[Op.operands,Call.operands]);rw[e0,e1];split
  ·split
   ·rfl
   ·have hx:∀x∈args.toList.map Jl,∀i∈refs x,hp i=hp' i:=by
     intro x hx i hi;rw[<-e1]at hx;obtain⟨y,hy,rfl⟩:=List.mem_map.1 hx;exact h y (by simp[Op.operands,Call.operands];exact .inr (by simpa using hy)) i hi
    split
    ·exact Zx hx
    ·exact Uk hx
  ·rfl
 ·rename_i b args uI;have e1:args.toList.map ev=args.toList.map Jl:=bNM fun x hx=>he x (by simpa [Op.operands,Call.operands] using hx)
  rw[e1];refine Nm ?_;intro x hx i hi;rw[<-e1]at hx;obtain⟨y,hy,rfl⟩:=List.mem_map.1 hx;exact h y (by simpa [Op.operands,Call.operands] using hy) i hi
 ·rfl
end AI
namespace AI
open Go Go.RowKit
inductive Gd where
 |run
 |skip
 |bad
def gd(ops:Array Oper)(o:Oper)(fr:Nat->A):Gd :=
 match o.guard with
 |none=>.run
 |some (j,want)=>match (ops[j]?).bind (·.dst)with
  |some d=>match fr d with
   | .v (.one (.s (.sc (.bool b))))=>if b=want then .run else .skip
   | .It []=>.skip
   |_=>.bad
  |none=>.bad
structure Dt where
 i:Nat
 o:Oper
 x:A
 u:nZ
 t:List Nat
def vT(E:Env)(ops:Array Oper)(base:Nat)(d:Dt)(st eI:St):Prop :=
 ops[d.i]?=some d.o/\gY E.nt d.o=true /\
  ((gd ops d.o st.fr=.run/\oX E (base+8*d.i) d.o (evA E st.fr) st.hp=some (d.x,d.u)/\d.t=qQ d.o (evA E st.fr) d.u)\/(gd ops d.o st.fr=.skip/\d.x=.It []/\d.u=[]/\d.t=[])) /\
  eI=after d.o st d.x d.u
def vG(E:Env)(ops:Array Oper)(base:Nat):List Dt->St->St->Prop
 | [],st,eI=>st=eI
 |d :: l,st,eI=>∃st1,vT E ops base d st st1/\vG E ops base l st1 eI
def Dt.told(d:Dt):Rec:=⟨d.i,d.o,d.t,d.u.map (·.1)⟩
def zQ(ops:Array Oper)(d d':Dt):Prop:=indep ops d.told d'.i d'.o d'.t (d'.u.map (·.1))=true
theorem iH{R:Type}(len:Nat)(lo hi mx:Option A)(K:Nat->Nat->Option R):sliceK len lo hi mx K=(sliceK len lo hi mx fun l h=>some (l,h)).bind fun p=>K p.1 p.2:=by
 unfold sliceK;split
 ·split <;> rfl
 ·split
  ·split <;> rfl
  ·rfl
 ·rfl
theorem Dj{R S:Type}(n:Int)(f:Nat->S)(K:S->Option R):∀m j:Nat,splitN n m j (fun i=>K (f i))=(splitN n m j (fun i=>some (f i))).bind K
 |0,_=>rfl
 |m+1,j=>by
  unfold splitN;cases decide (n=(j:Int))with
  |true=>rfl
  |false=>exact Dj n f K m (j+1)
theorem oL{R:Type}(hp:Nat->Option iM)(t:TI)(nP:Nat)(x:A)(n:Int)(K:A->Option R):idxK hp t nP x n K=(idxK hp t nP x n some).bind K:=by
 unfold idxK;split
 ·split
  ·split <;> rfl
  ·rfl
 ·split
  ·split
   ·split <;> rfl
   ·rfl
  ·split <;> rfl
  ·rfl
 ·split
  ·split
   ·split <;> rfl
   ·rfl
  ·rfl
 ·split
  ·split <;> rfl
  ·rfl
 ·split
  ·rename_i id off x len esz' g hk;cases bLZ len 8 with
   |true=>exact Dj n (fun j=>A.v (V.one (L.ptr id (off+j*nP)))) K len 0
   |false =>
    simp only[cond_false];split <;> rfl
  ·rfl
 ·split
  ·split
   ·split <;> rfl
   ·rfl
  ·rfl
 ·rfl
theorem Ac{R S:Type}(n:Int){F:Nat->Option R}{G:Nat->Option S}(K:S->Option R)(h:∀j,F j=(G j).bind K):∀m j:Nat,splitN n m j F=(splitN n m j G).bind K
 |0,_=>rfl
 |m+1,j=>by
  unfold splitN;cases decide (n=(j:Int))with
  |true=>exact h j
  |false=>exact Ac n K h m (j+1)
theorem Ko{R:Type}(sh:Bool)(hp:Nat->Option iM)(t:TI)(nP:Nat)(x:A)(n:Int)(K:A->Option R):Mo sh hp t nP x n K=(Mo sh hp t nP x n some).bind K:=by
 unfold Mo;split
 ·split
  ·exact Ac n K (fun j=>oL ..) _ 0
  ·exact oL ..
 ·exact oL ..
theorem Uj{R:Type}(E:Env)(id:Nat)(keep:Bool)(f:FuncId)(args:List A)(hp:Nat->Option iM)(K:A->nZ->Option R):callK E id keep f args hp K=(callK E id keep f args hp fun a u=>some (a,u)).bind fun p=>K p.1 p.2:=by
 unfold callK;split
 ·rfl
 ·split
  ·rfl
  ·rename_i g rs _;unfold aO;simp only[Af];split
   ·cases bLZ rs.length 8 with
    |false=>rfl
    |true =>
     simp only[cond_true];split <;> rfl
   ·rfl
theorem Rb{R:Type}(E:Env)(ps:List Nat)(id:Nat)(keep:Bool)(f:FuncId)(args:List A)(hp:Nat->Option iM)(K:A->nZ->Option R):callIO E ps id keep f args hp K=(callIO E ps id keep f args hp fun a u=>some (a,u)).bind fun p=>K p.1 p.2:=by
 unfold callIO;split
 ·rfl
 ·generalize (leqN _ _&&_)=bb;cases bb with
  |false=>rfl
  |true =>
   simp only[cond_true];split
   ·rfl
   ·unfold aO;simp only[Af];split
    ·generalize (bLZ _ _&&_&&_)=b2;cases b2 with
     |false=>rfl
     |true =>
      simp only[cond_true];split
      ·rfl
      ·split <;> rfl
    ·rfl
theorem Jy{R:Type}(n0 id:Nat)(e:TypeId)(te:TI)(s x:A)(hp:Nat->Option iM)(K:A->nZ->Option R):nF n0 id e te s x hp K=(nF n0 id e te s x hp fun a u=>some (a,u)).bind fun p=>K p.1 p.2:=by
 unfold nF;split
 ·split
  ·split
   ·split
    ·split
     ·split <;> rfl
     ·rfl
    ·split <;> rfl
    ·rfl
   ·rfl
  ·rfl
 ·rfl
theorem Jv{R:Type}(E:Env)(id:Nat)(b:Builtin)(args:List A)(uI:List TypeId)(hp:Nat->Option iM)(K:A->nZ->Option R):builtinK E id b args uI hp K=(builtinK E id b args uI hp fun a u=>some (a,u)).bind fun p=>K p.1 p.2:=by
 unfold builtinK;split
 ·split <;> rfl
 ·split <;> rfl
 ·split <;> rfl
 ·split
  ·split
   ·split
    ·split
     ·split
      ·split
       ·generalize bMH _ _=bb;cases bb with
        |true=>rfl
        |false =>
         simp only[cond_false];split
         ·split <;> rfl
         ·rfl
       ·rfl
      ·split <;> rfl
      ·rfl
     ·rfl
    ·exact Jy ..
    ·rfl
   ·rfl
  ·rfl
 ·split
  ·split
   ·split
    ·split
     ·split <;> rfl
     ·rfl
    ·split
     ·split <;> rfl
     ·rfl
    ·rfl
   ·rfl
  ·rfl
 ·rfl
theorem mS {R : Type} (E : Env) (id : Nat) (o : Oper) (ev : Operand → A) (hp : Nat → Option iM) (K : A → nZ → Option R) : effK E id o ev hp K = (oX E id o ev hp).bind fun p => K p.1 p.2 := by
  unfold oX effK
  split
  · rfl
  · rfl
  · split
    · split
      · rfl
      · rename_i t _ _ _ _; cases t <;> rfl
    · rfl
  · split <;> rfl
  · split
    · split <;> rfl
    · rfl
  · split
    · rw [kD]; conv => rhs; rw [kD]
      rw [bME]; rfl
    · rw [kD]; conv => rhs; rw [kD]
      rw [bME]; rfl
    · rfl
  · split
    · split
      · split
        · rw [kD]; conv => rhs; rw [kD]
          rw [bME]
          congr 1
          funext r
          split
          · split <;> rfl
          · rfl
        · rfl
      · rfl
    · rfl
  · split
    · split
      · split
        · split <;> rfl
        · rfl
      · split <;> rfl
      · split <;> rfl
      · rfl
    · rfl
  · split
    · split
      · split
        · split <;> rfl
        · rfl
      · split
        · split <;> rfl
        · rfl
      · rfl
    · rfl
  · split
    · generalize boolT _ _ = bb
      cases bb with
      | true => simp only [cond_true]; rw [Cw]; conv => rhs; rw [Cw]
                rw [bME]; rfl
      | false => rfl
    · split
      · split <;> rfl
      · rfl
    · rfl
  · split
    · rw [Fp]; conv => rhs; rw [Fp]
      rw [bME]; rfl
    · rfl
  · split
    · rw [zJ]; conv => rhs; rw [zJ]
      rw [bME]; rfl
    · rfl
  · split
    · split
      · split
        · split <;> rfl
        · rfl
      · rfl
    · rfl
  · split
    · split
      · split
        · split
          · rw [iH]; conv => rhs; rw [iH]
            rw [bME]; rfl
          · rfl
        · rw [iH]; conv => rhs; rw [iH]
          rw [bME]; rfl
        · rw [iH]; conv => rhs; rw [iH]
          rw [bME]; rfl
        · rw [iH]; conv => rhs; rw [iH]
          rw [bME]; rfl
        · rfl
      · split
        · split
          · rw [iH]; conv => rhs; rw [iH]
            rw [bME]; rfl
          · rfl
        · rfl
      · rfl
    · rfl
  · split
    · split
      · split <;> rfl
      · split <;> rfl
      · rfl
    · rfl
  · split
    · split
      · split <;> rfl
      · rfl
    · rfl
  · split
    · split
      · split
        · split
          · rfl
          · rfl
          · rw [Ko]; conv => rhs; rw [Ko]
            rw [bME]; rfl
        · rfl
      · split
        · rw [oL]; conv => rhs; rw [oL]
          rw [bME]; rfl
        · rw [oL]; conv => rhs; rw [oL]
          rw [bME]; rfl
        · rfl
      · rfl
    · rfl
  · split
    · split
      · split <;> rfl
      · rfl
    · split <;> rfl
    · rfl
  · split
    · split <;> rfl
    · rfl
  · split
    · split
      · unfold aO
        split <;> rfl
      · split
        · exact Uj _ _ _ _ _ _ _
        · exact Rb _ _ _ _ _ _ _ _
    · rfl
  · exact Jv _ _ _ _ _ _ _
  · rfl
theorem Vk(fr:Nat->A)(d:Nat)(b:Bool)(h:fr d=yJ (.bool b)):xQ fr d (yJ (.bool b))=fr:=Oy fr d _ h
theorem Ki{R:Type}(E:Env)(draw:Bool)(ops:Array Oper)(base:Nat)(K:St->Option R)(r:R):∀(l:List Oper) (i:Nat) (mJ:List Rec) (st:St),
  (∀(k:Nat) (o:Oper),l[k]?=some o->ops[i+k]?=some o)->opsK E draw ops base l i mJ st K=some r ->
  ∃ds eI,K eI=some r/\vG E ops base ds st eI/\ds.map (·.i)=List.range' i l.length /\
   (draw=true->(∀rc∈mJ,∀d∈ds,indep ops rc d.i d.o d.t (d.u.map (·.1))=true)/\bNV (zQ ops) ds/\∀d∈ds,uZ d.i d.o=true)
 | [],i,mJ,st,_,h=>⟨[],st,h,rfl,rfl,fun _=>⟨fun _ _ _ hd=>(by cases hd),List.Pairwise.nil,fun _ hd=>(by cases hd)⟩⟩
 |o :: l,i,mJ,st,hl,h=>by
  have hi:ops[i]?=some o:=by simpa using hl 0 o rfl
  have aWP:∀(k:Nat) (o':Oper),l[k]?=some o'->ops[i+1+k]?=some o':=fun k o' hk=>by have:=hl (k+1) o' (by simpa using hk);rwa [show i+(k+1)=i+1+k by omega]at this
  unfold opsK at h;cases bAF:gY E.nt o&&(!draw||uZ i o)with
  |false=>rw[bAF]at h;cases h
  |true =>
   rw[bAF]at h;simp only[cond_true]at h;obtain⟨Zd,aWT⟩:=(bMC _ _).mp bAF;have go:∀(x:A) (u:nZ) (t:List Nat),vT E ops base ⟨i,o,x,u,t⟩ st (after o st x u) ->
     (bif !draw||mJ.all fun r=>indep ops r i o t (u.map (·.1))then opsK E draw ops base l (i+1) (⟨i,o,t,u.map (·.1)⟩ :: mJ) (after o st x u) K else none)=some r ->
     ∃ds eI,K eI=some r/\vG E ops base ds st eI/\ds.map (·.i)=List.range' i (o :: l).length /\
      (draw=true->(∀rc∈mJ,∀d∈ds,indep ops rc d.i d.o d.t (d.u.map (·.1))=true)/\bNV (zQ ops) ds/\∀d∈ds,uZ d.i d.o=true):=by
    intro x u t hs hk;cases hc:!draw||mJ.all fun r=>indep ops r i o t (u.map (·.1))with
    |false=>rw[hc]at hk;cases hk
    |true =>
     rw[hc]at hk;simp only[cond_true]at hk;obtain⟨ds,eI,h1,h2,h3,h4⟩:=Ki E draw ops base K r l (i+1) _ _ aWP hk;refine⟨⟨i,o,x,u,t⟩ :: ds,eI,h1,⟨_,hs,h2⟩,by simp[h3,List.range'_succ],fun aHH=>?_⟩;obtain⟨h5,h6,h7⟩:=h4 aHH;subst aHH;simp only[bNW,bNX]at hc aWT;refine⟨fun rc bDY d hd=>?_,List.pairwise_cons.2 ⟨fun d hd=>(show indep ops ⟨i,o,t,u.map (·.1)⟩ d.i d.o d.t (d.u.map (·.1))=true from h5 _ (bMD ..) d hd),h6⟩,fun d hd=>?_⟩
     ·rcases List.mem_cons.1 hd with rfl |hd
      ·exact List.all_eq_true.1 hc rc bDY
      ·exact h5 rc (by simp[bDY]) d hd
     ·rcases List.mem_cons.1 hd with rfl |hd
      ·exact aWT
      ·exact h7 d hd
   split at h
   ·rename_i hg;rw[mS]at h;obtain⟨⟨x,u⟩,he,h⟩:=Option.bind_eq_some_iff.1 h;exact go x u _ ⟨hi,Zd,.inl ⟨by unfold gd;rw[hg],he,rfl⟩,rfl⟩ h
   ·rename_i j want hg;split at h
    ·rename_i d hd;split at h
     ·rename_i b hb;have e0:xQ st.fr d (yJ (.bool b))=st.fr:=Vk st.fr d b hb;have aQR:∀w,(b==want)=w->gd ops o st.fr=if w=true then .run else .skip:=by
       intro w hw;unfold gd;rw[hg];simp only[hd,hb];subst hw
       by_cases aJE:b=want <;> simp[aJE]
      have key:(bif b==want then
        effK E (base+8*i) o (evA E st.fr) st.hp fun a u =>
         bif !draw||mJ.all fun r=>indep ops r i o (qQ o (evA E st.fr) u) (u.map (·.1))then opsK E draw ops base l (i+1) (⟨i,o,qQ o (evA E st.fr) u,u.map (·.1)⟩ :: mJ) (after o st a u) K else none
       else bif !draw||mJ.all fun r=>indep ops r i o [] []then opsK E draw ops base l (i+1) (⟨i,o,[],[]⟩ :: mJ) (after o st (.It []) []) K else none)=some r:=by
       cases b
       ·simp only[cond_false,e0]at h;exact h
       ·simp only[cond_true,e0]at h;exact h
      cases aJE:b==want with
      |true =>
       rw[aJE]at key;simp only[cond_true]at key;rw[mS]at key;obtain⟨⟨x,u⟩,he,key⟩:=Option.bind_eq_some_iff.1 key;exact go x u _ ⟨hi,Zd,.inl ⟨by rw[aQR true aJE];rfl,he,rfl⟩,rfl⟩ key
      |false =>
       rw[aJE]at key;simp only[cond_false]at key;exact go (.It []) [] [] ⟨hi,Zd,.inr ⟨by rw[aQR false aJE];rfl,rfl,rfl,rfl⟩,rfl⟩ key
     ·rename_i hb;exact go (.It []) [] [] ⟨hi,Zd,.inr ⟨by unfold gd;rw[hg];simp only[hd,hb],rfl,rfl,rfl⟩,rfl⟩ h
     ·cases h
    ·cases h
end AI
namespace AI
open Go Go.RowKit
theorem yB{xs ys:List Nat}(h:Jr xs ys=true){i:Nat}(hx:i∈xs):i ∉ ys:=by
 intro hy;have:=List.all_eq_true.1 h i hx;simp at this;exact this hy
theorem gB{u:nZ}{hp:Nat->Option iM}{i:Nat}(h:i ∉ u.map (·.1)):applyUps u hp i=hp i:=by
 induction u generalizing hp with
 |nil=>rfl
 |cons p u ih =>
  obtain⟨j,b⟩:=p;simp only[bLV,bNC,not_or]at h;rw[applyUps,ih h.2,eG _ _ h.1]
theorem yS{u:nZ}{hp hp':Nat->Option iM}{i:Nat}(h:i∈u.map (·.1)):applyUps u hp i=applyUps u hp' i:=by
 induction u generalizing hp hp' with
 |nil=>cases h
 |cons p u ih =>
  obtain⟨j,b⟩:=p;simp only[applyUps]
  by_cases hi:i∈u.map (·.1)
  ·exact ih hi
  ·have e:i=j:=by simpa [hi] using h
   subst e;rw[gB hi,gB hi,bG,bG]
theorem Jx{u v:nZ}{hp:Nat->Option iM}(h:Jr (u.map (·.1)) (v.map (·.1))=true):applyUps u (applyUps v hp)=applyUps v (applyUps u hp):=by
 funext i
 by_cases hu:i∈u.map (·.1)
 ·have hv:i ∉ v.map (·.1):=yB h hu;rw[gB hv];exact yS hu
 ·rw[gB hu]
  by_cases hv:i∈v.map (·.1)
  ·exact yS hv
  ·rw[gB hv,gB hv,gB hu]
theorem aIL{o:Oper}{x:A}{fr:Nat->A}{t:Nat}(h:o.dst≠some t):zE o x fr t=fr t:=by
 unfold zE;cases hd:o.dst with
 |some d=>exact eG _ _ (fun e=>h (by rw[hd,e]))
 |none=>rfl
theorem Yk{o o':Oper}{x x':A}{fr:Nat->A}(h:∀d,o.dst=some d->o'.dst≠some d):zE o x (zE o' x' fr)=zE o' x' (zE o x fr):=by
 unfold zE;cases hd:o.dst with
 |none=>rfl
 |some d =>
  cases Dr:o'.dst with
  |none=>rfl
  |some d' =>
   have Dp:d≠d':=fun e=>h d hd (by rw[Dr,e])
   funext t;simp only
   by_cases h1:t=d
   ·subst h1;rw[bG,eG _ _ Dp,bG]
   ·rw[eG _ _ h1]
    by_cases h2:t=d'
    ·subst h2;rw[bG,bG]
    ·rw[eG _ _ h2,eG _ _ h2,eG _ _ h1]
def aQG(ops:Array Oper)(p q:Dt):Prop:=p.o.apart ops q.o=true/\Jr (p.u.map (·.1)) q.t=true/\Jr (q.u.map (·.1)) p.t=true
theorem aQG.symm{ops:Array Oper}{p q:Dt}(h:aQG ops p q):aQG ops q p:=by
 refine⟨?_,h.2.2,h.2.1⟩;obtain⟨h1,h2,h3⟩:=Oper.apart_spec h.1;unfold Oper.apart;rw[bMC];constructor
 ·cases hq:q.o.dst with
  |none=>rfl
  |some d =>
   simp only[bMC,bNE,bne_iff_ne,ne_eq];refine⟨by simpa using h3 d hq,fun hp=>?_⟩;exact h2 d hp hq
 ·cases hp:p.o.dst with
  |none=>rfl
  |some d=>simpa using h1 d hp
section
variable {E:Env} {ops:Array Oper} {base:Nat}
theorem Mg{o:Oper}{t:Tmp}(h:Operand.tmp t∈o.op.operands.toList):t∈o.looksAt ops:=by
 unfold Oper.looksAt;exact List.mem_append.2 (.inl (List.mem_filterMap.2 ⟨_,h,rfl⟩))
theorem aEO{fr aRB:Nat->A}{o:Oper}(h:∀t,t∈o.looksAt ops->fr t=aRB t){x:Operand}(hx:x∈o.op.operands.toList):evA E fr x=evA E aRB x:=by
 cases x with
 |tmp t=>exact h t (Mg hx)
 |_=>rfl
theorem Xh{fr aRB:Nat->A}{o:Oper}(h:∀t,t∈o.looksAt ops->fr t=aRB t):gd ops o fr=gd ops o aRB:=by
 unfold gd;cases hg:o.guard with
 |none=>rfl
 |some p =>
  obtain⟨j,want⟩:=p;simp only;cases hd:(ops[j]?).bind (·.dst)with
  |none=>rfl
  |some d =>
   have:fr d=aRB d:=h d (by
    unfold Oper.looksAt;rw[hg];exact List.mem_append.2 (.inr (by simp[hd])))
   simp only[this]
theorem vT.same{p:Dt}{st st1:St}(aQS:∀t,t∈p.o.looksAt ops->st.fr t=st1.fr t)(Qh:∀i,i∈p.t->st.hp i=st1.hp i){aWB:St}(h:vT E ops base p st1 aWB):vT E ops base p st (after p.o st p.x p.u):=by
 obtain⟨h1,h2,h3,_⟩:=h;refine⟨h1,h2,?_,rfl⟩;rcases h3 with ⟨hg,he,ht⟩ |⟨hg,hx,hu,ht⟩
 ·have gR:∀x,x∈p.o.op.operands.toList->evA E st1.fr x=evA E st.fr x:=fun x hx=>(aEO (ops:=ops) aQS hx).symm
  refine .inl ⟨by rw[Xh (ops:=ops) aQS];exact hg,?_,?_⟩
  ·rw[<-he];exact(aFA gR (fun x hx i hi=>(Qh i (by rw[ht];exact List.mem_append.2 (.inl (List.mem_flatMap.2 ⟨x,hx,hi⟩)))).symm)).symm
  ·rw[ht];unfold qQ;congr 1;rw[bOR,bOR];congr 1;exact bNM fun x hx=>by rw[gR x hx]
 ·exact .inr ⟨by rw[Xh (ops:=ops) aQS];exact hg,hx,hu,ht⟩
theorem yT{q:Dt}{st:St}{o:Oper}(h:∀d,q.o.dst=some d->d ∉ o.looksAt ops):∀t,t∈o.looksAt ops->st.fr t=(after q.o st q.x q.u).fr t:=by
 intro t ht;exact(aIL (fun e=>h t e ht)).symm
theorem aAZ{p:Dt}{st eI:St}(h:vT E ops base p st eI):∀i,i∈p.u.map (·.1)->i∈p.t:=by
 intro i hi;obtain⟨_,_,h3,_⟩:=h;rcases h3 with ⟨_,_,ht⟩ |⟨_,_,hu,_⟩
 ·rw[ht];exact List.mem_append.2 (.inr hi)
 ·rw[hu]at hi;cases hi
theorem vG.swap{p q:Dt}{l:List Dt}{st aRS:St}(hi:aQG ops q p)(h:vG E ops base (q :: p :: l) st aRS):vG E ops base (p :: q :: l) st aRS:=by
 obtain⟨st1,hq,aWB,hp,hl⟩:=h;obtain⟨a1,a2,a3⟩:=Oper.apart_spec hi.1;have e1:st1=after q.o st q.x q.u:=hq.2.2.2;have e2:aWB=after p.o st1 p.x p.u:=hp.2.2.2;have hp':vT E ops base p st (after p.o st p.x p.u):=by
  refine vT.same (st1:=st1) ?_ ?_ hp
  ·rw[e1];exact yT a1
  ·intro i aAQ;rw[e1];exact(gB (fun hm=>yB hi.2.1 hm aAQ)).symm
 have Wy:vT E ops base q (after p.o st p.x p.u) (after q.o (after p.o st p.x p.u) q.x q.u):=by
  refine vT.same (st1:=st) ?_ ?_ hq
  ·intro t ht;exact(yT a3 t ht).symm
  ·intro i aAQ;exact gB (fun hm=>yB hi.2.2 hm aAQ)
 have e3:after q.o (after p.o st p.x p.u) q.x q.u=aWB:=by
  rw[e2,e1];unfold after;simp only;rw[Yk (o:=q.o) (o':=p.o) (fun d hd=>a2 d hd),Jx];have hu:=aAZ hp;unfold Jr;rw[List.all_eq_true];intro i aAQ;have:=yB hi.2.1 aAQ;simp only[bNE,List.elem_eq_mem,decide_eq_false_iff_not];exact fun hm=>this (hu i hm)
 exact⟨_,hp',_,Wy,by rw[e3];exact hl⟩
theorem vG.front{p:Dt}{l2:List Dt}{aRS:St}:∀{l1:List Dt} {st:St},(∀q∈l1,aQG ops q p)->vG E ops base (l1 ++ p :: l2) st aRS->vG E ops base (p :: (l1 ++ l2)) st aRS
 | [],st,_,h=>h
 |q :: l1,st,hi,h=>by
  obtain⟨st1,hq,h⟩:=h;have ih:=vG.front (fun q' Wy=>hi q' (bMP _ Wy)) h;exact vG.swap (hi q (bMD ..)) ⟨st1,hq,ih⟩
end
def aKG(base:Nat)(done:Nat->Prop)(id:Nat):Prop:=id<base\/∃i,done i/\base+8*i<=id/\id<base+8*i+8
section
variable {P:Program} {E:Env} {X:Nat->Prop} {w0:Old} {ops:Array Oper} {base:Nat}
theorem gV.pC{ρ:Nat->Nat}{al al':Nat->Prop}{fr:Nat->A}{hp:Nat->Option iM}{a:Act}{w:World}(h:gV E X w0 ρ al fr hp a w)(pK:∀i,al i->al' i):gV E X w0 ρ al' fr hp a w :=
 { fr:=h.fr,sz:=h.sz,nod:=h.nod,blk:=h.blk,inj:=h.inj,alh:=fun i b hb=>pK i (h.alh i b hb),alr:=fun t i hi=>pK i (h.alr t i hi),below:=h.below,x0:=h.x0,glob:=h.glob,mg:=h.mg,al0:=fun i hi=>pK i (h.al0 i hi),qJ:=h.qJ }
theorem Kq{ρ:Nat->Nat}{al:Nat->Prop}{fr:Nat->A}{hp:Nat->Option iM}{a:Act}{w:World}(h:gV E X w0 ρ al fr hp a w){o:Oper} :
  (gd ops o fr=.run->Region.wanted o (yielded ops a.tmps)=true)/\(gd ops o fr=.skip->Region.wanted o (yielded ops a.tmps)=false):=by
 unfold gd Region.wanted;cases hg:o.guard with
 |none=>exact⟨fun _=>rfl,fun h=>by cases h⟩
 |some p =>
  obtain⟨j,want⟩:=p;simp only;cases hd:(ops[j]?).bind (·.dst)with
  |none=>exact⟨fun h=>(by cases h),fun h=>(by cases h)⟩
  |some d =>
   simp only;split
   ·rename_i b hb;have hr:=h.fr d;rw[hb]at hr;have hv:a.tmps.getD d undef=.bool b:=hr.1;have hy:yielded ops a.tmps j=some b:=by
     unfold yielded;rw[hd];simp only[bNN];have:a.tmps[d]?=some (.bool b):=by
      rw[Array.getD_eq_getD_getElem?]at hv;cases hq:a.tmps[d]? with
      |none=>rw[hq]at hv;simp[undef]at hv
      |some v=>rw[hq]at hv;simp at hv;rw[hv]
     rw[this]
    rw[hy]
    by_cases aJE:b=want
    ·simp[aJE]
    ·simp[aJE]
   ·rename_i hb;have hr:=h.fr d;rw[hb]at hr;obtain⟨arr,hv,_⟩:=hr;have hy:yielded ops a.tmps j=none:=by
     unfold yielded;rw[hd];simp only[bNN];rw[Array.getD_eq_getD_getElem?]at hv;cases hq:a.tmps[d]? with
     |none=>rfl
     |some v=>rw[hq]at hv;simp at hv;rw[hv]
    rw[hy];exact⟨fun h=>(by cases h),fun _=>rfl⟩
   ·exact⟨fun h=>(by cases h),fun h=>(by cases h)⟩
theorem vT.wp(hT:mG P E.T)(hC:iT P E){ρ:Nat->Nat}{done:Nat->Prop}{a:Act}{w:World}{st eI:St}{d:Dt}(hs:vT E ops base d st eI)(h:gV E X w0 ρ (aKG base done) st.fr st.hp a w)(hnd:¬done d.i)
  (K:Act->World->Prop) (Q:Exit->Act->World->Prop) (hK:∀ρ' a' w',gV E X w0 ρ' (aKG base fun i=>done i\/i=d.i) eI.fr eI.hp a' w'->K a' w'):wpOp P ops Q d.i K a w:=by
 obtain⟨h1,h2,h3,rfl⟩:=hs;unfold wpOp;rw[h1];simp only;have Kp:∀i,lY (aKG base done) (base+8*d.i) i->aKG base (fun i=>done i\/i=d.i) i:=by
  rintro i ((hi |⟨j,hj,Za⟩) |hi)
  ·exact .inl hi
  ·exact .inr ⟨j,.inl hj,Za⟩
  ·exact .inr ⟨d.i,.inr rfl,hi⟩
 rcases h3 with ⟨hg,he,ht⟩ |⟨hg,hx,hu,ht⟩
 ·rw[if_pos ((Kq h).1 hg)];refine .inl (Sq h h2 hT hC ?_ he K Q (fun ρ' v w' Tn=>hK ρ' _ w' (Tn.pC Kp)));rintro j hj (iN |⟨i,hi,aUG⟩)
  ·omega
  ·have:i=d.i:=by omega
   subst this;exact hnd hi
 ·rw[if_neg (by rw[(Kq h).2 hg];simp)];rw[hx,hu]at hK;exact hK ρ _ w ((h.pure h2 (x:=.It []) (v:=undef) ⟨#[],rfl,rfl,fun i y u hy=>by cases hy⟩ (by simp[refs])).pC (fun i hi=>Kp i (.inl hi)))
theorem vG.wpOps(hT:mG P E.T)(hC:iT P E)(Q:Exit->Act->World->Prop):∀(ds:List Dt) (done:Nat->Prop) (ρ:Nat->Nat) (a:Act) (w:World) (st eI:St),vG E ops base ds st eI->gV E X w0 ρ (aKG base done) st.fr st.hp a w ->
  (∀d∈ds,¬done d.i)->(ds.map (·.i)).Nodup->(∀ρ' a' w',gV E X w0 ρ' (aKG base fun i=>done i\/i∈ds.map (·.i)) eI.fr eI.hp a' w'->Q .normal a' w') ->
  Go.wpOps P ops Q (ds.map (·.i)) a w
 | [],done,ρ,a,w,st,eI,h,hs,_,_,hQ=>by
  cases h;exact hQ ρ a w (hs.pC (fun i hi=>hi.imp id fun⟨j,hj,Za⟩=>⟨j,.inl hj,Za⟩))
 |d :: ds,done,ρ,a,w,st,eI,h,hs,hnd,vV,hQ=>by
  obtain⟨st1,hd,hr⟩:=h;rw[bLV,wpOps_cons];rw[bLV,List.nodup_cons]at vV;refine hd.wp hT hC hs (hnd d (bMD ..)) _ _ (fun ρ' a' w' nY=>?_);refine vG.wpOps hT hC Q ds _ ρ' a' w' st1 eI hr nY (fun d' Dr Qj=>?_) vV.2 (fun ρ2 a2 w2 Ix=>hQ ρ2 a2 w2 (Ix.pC ?_))
  ·rcases Qj with Qj |Qj
   ·exact hnd d' (bMP _ Dr) Qj
   ·exact vV.1 (List.mem_map.2 ⟨d',Dr,Qj⟩)
  ·rintro i (hi |⟨j,hj,Za⟩)
   ·exact .inl hi
   ·refine .inr ⟨j,?_,Za⟩;rcases hj with (hj |hj) |hj
    ·exact .inl hj
    ·exact .inr (by rw[bLV,hj];exact bMD ..)
    ·exact .inr (by rw[bLV];exact bMP _ hj)
theorem zQ.ind{p q:Dt}(h:zQ ops p q)(Dp:¬(q.o.after.any fun e=>Region.binds .any e&&e.on==p.i)=true)(aZL:¬befB ops p.i 3 q.o=true):aQG ops p q:=by
 unfold zQ indep at h;rw[bNF,bNF]at h;rcases h with (h |h) |h
 ·exact absurd h Dp
 ·simp only[bMC]at h;exact⟨h.1.1,h.1.2,h.2⟩
 ·exact absurd h aZL
def Ok(ops:Array Oper)(fO:Array Bool):Prop:=∀(j:Nat) (o:Oper),fO.getD j false=true->ops[j]?=some o->o.after.all (fun e=>!Region.binds .any e||fO.getD e.on false)=true
theorem Ok.bFL{fO:Array Bool}(hc:Ok ops fO){j:Nat}:∀(n:Nat) (o:Oper),o.after.all (fun e=>!Region.binds .any e||fO.getD e.on false)=true->befB ops j n o=true->fO.getD j false=true
 |0,_,_,h=>by cases h
 |n+1,o,ha,h=>by
  unfold befB at h;rw[Array.any_eq_true']at h;obtain⟨e,he,aOQ⟩:=h;rw[bMC]at aOQ;rw[Array.all_eq_true_iff_forall_mem]at ha;have h1:=ha e he;rw[aOQ.1]at h1;simp only[bNW,bNX]at h1;have h2:=aOQ.2;rw[bNF]at h2;rcases h2 with h2 |h2
  ·have:e.on=j:=by simpa using h2
   rw[<-this];exact h1
  ·cases ho:ops[e.on]? with
   |none=>rw[ho]at h2;cases h2
   |some o' =>
    rw[ho]at h2;exact hc.bFL n o' (hc e.on o' h1 ho) h2
theorem vG.wpAny(hT:mG P E.T)(hC:iT P E)(Q:Exit->Act->World->Prop)(n:Nat)(hn:n=ops.size):∀(fuel:Nat) (ds:List Dt) (fO:Array Bool) (ρ:Nat->Nat) (a:Act) (w:World) (st eI:St),ds.length=fuel->fO.size=n ->
  (∀i,i∈ds.map (·.i)↔i<n/\fO.getD i true=false)->(ds.map (·.i)).Pairwise (· < ·)->bNV (zQ ops) ds->(∀d∈ds,uZ d.i d.o=true)->Ok ops fO ->
  vG E ops base ds st eI->gV E X w0 ρ (aKG base fun i=>fO.getD i false=true) st.fr st.hp a w ->
  (∀ρ' a' w',gV E X w0 ρ' (aKG base fun i=>i<n) eI.fr eI.hp a' w'->Q .normal a' w') ->
  Go.wpAny P .any ops Q fuel fO a w:=by
 intro fuel
 induction fuel with
 |zero =>
  intro ds fO ρ a w st eI hlen bEG Hb _ _ _ _ eY hs hQ;obtain rfl:ds=[]:=bOL hlen;cases eY;have wW:∀i,i<n->fO.getD i true=true:=by
   intro i hi;cases hq:fO.getD i true with
   |true=>rfl
   |false=>exact absurd ((Hb i).2 ⟨hi,hq⟩) (by simp)
  refine⟨?_,hQ ρ a w (hs.pC ?_)⟩
  ·unfold Region.ready;rw[List.filter_eq_nil_iff];intro i hi;rw[bNY,<-hn]at hi;simp[wW i hi]
  ·rintro i (hi |⟨j,hj,Za⟩)
   ·exact .inl hi
   ·refine .inr ⟨j,?_,Za⟩;rcases bML j n with h |h
    ·exact h
    ·rw[Array.getD_eq_getD_getElem?,Array.getElem?_eq_none (by omega)]at hj;cases hj
 |succ fuel ih =>
  intro ds fO ρ a w st eI hlen bEG Hb Yy aDN Xb aAS eY hs hQ;have sF:∀d∈ds,ops[d.i]?=some d.o:=by
   have:∀(l:List Dt) (s s':St),vG E ops base l s s'->∀d∈l,ops[d.i]?=some d.o:=by
    intro l
    induction l with
    |nil=>intro s s' _ d hd;cases hd
    |cons d l ih =>
     intro s s' h d' Dr;obtain⟨s1,h1,h2⟩:=h;rcases List.mem_cons.1 Dr with rfl |Dr
     ·exact h1.1
     ·exact ih s1 s' h2 d' Dr
   exact this ds st eI eY
  have aDM:∀i,i∈Region.ready .any ops fO↔i<n/\fO.getD i true=false/\∃o,ops[i]?=some o/\o.after.all (fun e=>!Region.binds .any e||fO.getD e.on false)=true:=by
   intro i;unfold Region.ready;rw[List.mem_filter,bNY,<-hn];constructor
   ·rintro ⟨h1,h2⟩;rw[bMC]at h2;refine⟨h1,by simpa using h2.1,?_⟩;cases ho:ops[i]? with
    |none=>rw[ho]at h2;simp at h2
    |some o=>exact⟨o,rfl,by have:=h2.2;rw[ho]at this;simpa using this⟩
   ·rintro ⟨h1,h2,o,ho,h3⟩;refine⟨h1,?_⟩;rw[bMC];exact⟨by simp[h2],by rw[ho];simpa using h3⟩
  refine⟨fun aTO=>?_,fun i hi=>?_⟩
  ·
   exfalso
   match ds,hlen with
   |d :: ds,_ =>
    have hd:d.i<n/\fO.getD d.i true=false:=(Hb d.i).1 (bMD ..);have:d.i∈Region.ready .any ops fO:=by
     refine(aDM d.i).2 ⟨hd.1,hd.2,d.o,sF d (bMD ..),?_⟩;have he:=Xb d (bMD ..);unfold uZ at he;rw[Array.all_eq_true_iff_forall_mem]at he ⊢;intro e bJN;have:=he e bJN;rw[bNF]at this ⊢;rcases this with h |h
     ·exact .inl h
     ·right;have iN:e.on<d.i:=bNU h;cases hq:fO.getD e.on false with
      |true=>rfl
      |false =>
       have Wy:fO.getD e.on true=false:=by
        rw[Array.getD_eq_getD_getElem?]at hq ⊢;rw[Array.getElem?_eq_getElem (by omega)]at hq ⊢;exact hq
       have hm:=(Hb e.on).2 ⟨by omega,Wy⟩;rw[bLV,bNC]at hm;rw[bLV,List.pairwise_cons]at Yy;rcases hm with hm |hm
       ·omega
       ·have:=Yy.1 _ hm;omega
    rw[aTO]at this;cases this
  ·obtain⟨h1,h2,o,ho,h3⟩:=(aDM i).1 hi;have bIY:=(Hb i).2 ⟨h1,h2⟩;obtain⟨p,hp,aTH⟩:=List.mem_map.1 bIY;obtain⟨l1,l2,rfl⟩:=List.append_of_mem hp;have bEB:p.o=o:=by have:=sF p hp;rw[aTH,ho]at this;exact(Option.some.inj this).symm
   have aZV:∀q∈l1,aQG ops q p:=by
    intro q hq;have bIB:zQ ops q p:=(List.pairwise_append.1 aDN).2.2 q hq p (bMD ..);have bIG:¬fO.getD q.i false=true:=by
     have aZF:=(Hb q.i).1 (List.mem_map.2 ⟨q,by simp[hq],rfl⟩);have h4:=aZF.2;rw[Array.getD_eq_getD_getElem?,Array.getElem?_eq_getElem (by omega)]at h4;rw[Array.getD_eq_getD_getElem?,Array.getElem?_eq_getElem (by omega)];rw[bOS]at h4 ⊢;rw[h4];simp
    refine bIB.ind (fun Au=>?_) (fun hb=>bIG (aAS.bFL 3 p.o (by rw[bEB];exact h3) hb));rw[Array.any_eq_true']at Au;obtain⟨e,he,aOQ⟩:=Au;rw[bMC]at aOQ;rw[Array.all_eq_true_iff_forall_mem]at h3;have:=h3 e (by rw[<-bEB];exact he);rw[aOQ.1]at this;simp only[bNW,bNX]at this;have bHY:e.on=q.i:=by simpa using aOQ.2
    have aZF:=(Hb q.i).1 (List.mem_map.2 ⟨q,by simp[hq],rfl⟩);rw[bHY]at this;rw[Array.getD_eq_getD_getElem?,Array.getElem?_eq_getElem (by omega)]at this;have h4:=aZF.2;rw[Array.getD_eq_getD_getElem?,Array.getElem?_eq_getElem (by omega)]at h4;rw[bOS]at this h4;rw[this]at h4;cases h4
   obtain⟨st1,aDJ,vO⟩:=vG.front aZV eY;rw[<-aTH];have Sg:fO.getD p.i false=false:=by
    have:=h2;rw[<-aTH]at this;rw[Array.getD_eq_getD_getElem?,Array.getElem?_eq_getElem (by omega)]at this ⊢;exact this
   refine aDJ.wp hT hC hs (by simp[Sg]) _ _ (fun ρ' a' w' nY=>?_);have aOE:∀x∈(l1 ++ l2).map (·.i),x≠p.i:=by
    intro x hx;rw[bMV,bLV,List.pairwise_append]at Yy;rw[bMV,bMY]at hx;rcases hx with hx |hx
    ·have:=Yy.2.2 x hx p.i (bMD ..);omega
    ·have:=(List.pairwise_cons.1 Yy.2.1).1 x hx;omega
   have bAM:Ok ops (fO.setIfInBounds p.i true):=by
    have Kp:∀k,fO.getD k false=true->(fO.setIfInBounds p.i true).getD k false=true:=by
     intro k hk;rw[Array.getD_eq_getD_getElem?,Array.getElem?_setIfInBounds]
     by_cases bEI:p.i=k
     ·rw[if_pos bEI,aT];rfl
     ·rw[if_neg bEI,<-Array.getD_eq_getD_getElem?];exact hk
    have aHF:∀(o':Oper),o'.after.all (fun e=>!Region.binds .any e||fO.getD e.on false)=true->o'.after.all (fun e=>!Region.binds .any e||(fO.setIfInBounds p.i true).getD e.on false)=true:=by
     intro o' aAN;rw[Array.all_eq_true_iff_forall_mem]at aAN ⊢;intro e he;have:=aAN e he;rw[bNF]at this ⊢;exact this.imp id (Kp _)
    intro j o' hj aAN
    by_cases aTZ:p.i=j
    ·have:o'=o:=by rw[<-aTZ,aTH,ho]at aAN;exact(Option.some.inj aAN).symm
     rw[this];exact aHF o h3
    ·rw[Array.getD_eq_getD_getElem?,Array.getElem?_setIfInBounds,if_neg aTZ,<-Array.getD_eq_getD_getElem?]at hj;exact aHF o' (aAS j o' hj aAN)
   refine ih (l1 ++ l2) _ ρ' a' w' st1 eI (by simp at hlen ⊢;omega) (by simpa using bEG) ?_ ?_ ?_ ?_ bAM vO (nY.pC ?_) hQ
   ·intro x;have Ou:=Hb x;rw[bMV,bLV,bMY,bNC]at Ou;rw[bMV,bMY];rw[Array.getD_eq_getD_getElem?,Array.getElem?_setIfInBounds];constructor
    ·intro hx;have Dp:=aOE x (by rw[bMV,bMY];exact hx);have:=Ou.1 (hx.imp id .inr);refine⟨this.1,?_⟩;rw[if_neg (fun e=>Dp e.symm),<-Array.getD_eq_getD_getElem?];exact this.2
    ·rintro ⟨bHG,Sc⟩
     by_cases aQL:p.i=x
     ·rw[if_pos aQL,aT]at Sc;simp at Sc
     ·rw[if_neg aQL,<-Array.getD_eq_getD_getElem?]at Sc;rcases Ou.2 ⟨bHG,Sc⟩with h |h |h
      ·exact .inl h
      ·exact absurd h.symm aQL
      ·exact .inr h
   ·exact Yy.sublist (by simp)
   ·exact aDN.sublist (by simp)
   ·exact fun d hd=>Xb d (by rcases List.mem_append.1 hd with h |h <;> simp[h])
   ·rintro x (hx |⟨j,hj,Za⟩)
    ·exact .inl hx
    ·refine .inr ⟨j,?_,Za⟩;show(fO.setIfInBounds p.i true).getD j false=true;rw[Array.getD_eq_getD_getElem?,Array.getElem?_setIfInBounds];rcases hj with hj |hj
     ·by_cases aTZ:p.i=j
      ·rw[if_pos aTZ,aT];rfl
      ·rw[if_neg aTZ,<-Array.getD_eq_getD_getElem?];exact hj
     ·rw[if_pos hj.symm,aT];rfl
theorem Ma(hT:mG P E.T)(hC:iT P E)(hm:P.follows .mixedOrders=true){bGH:Nat}{draw:Bool}{R:Type}{K:St->Option R}{r:R}{st:St}{ρ:Nat->Nat}{a:Act}{w:World}(hs:gV E X w0 ρ (fun i=>i<st.n) st.fr st.hp a w)
  (he:opsK E draw ops st.n ops.toList 0 [] st K=some r) (Q:Exit->Act->World->Prop) (hQ:∀eI ρ' a' w',K eI=some r->gV E X w0 ρ' (fun i=>i<st.n+8*ops.size) eI.fr eI.hp a' w'->Q .normal a' w') :
  (Code.region bGH ops draw).wp P Q a w:=by
 obtain⟨ds,eI,hK,eY,aUE,aUN⟩:=Ki E draw ops st.n K r ops.toList 0 [] st (fun k o hk=>by rw[bLY];simpa using hk) he;have hlen:ds.length=ops.size:=by have:=congrArg List.length aUE;simpa using this
 have Mr:ds.map (·.i)=bNG ops.size:=by rw[aUE,Array.length_toList,List.range_eq_range']
 have pK:∀i,aKG st.n (fun i=>i<ops.size) i->i<st.n+8*ops.size:=by
  rintro i (hi |⟨j,hj,Za⟩) <;> omega
 have Hb:∀i,i∈ds.map (·.i)↔i<ops.size:=fun i=>by rw[Mr,bNY]
 cases draw with
 |false =>
  refine wp_region ?_;rw[<-Mr];refine eY.wpOps hT hC Q ds (fun _=>False) ρ a w st eI (hs.pC (fun i hi=>.inl hi)) (fun _ _ h=>h) (by rw[Mr];exact List.nodup_range) (fun ρ' a' w' nY=>hQ eI ρ' a' w' hK (nY.pC (fun i hi=>pK i ?_)));rcases hi with hi |⟨j,hj,Za⟩
  ·exact .inl hi
  ·exact .inr ⟨j,(Hb j).1 (hj.resolve_left id),Za⟩
 |true =>
  obtain⟨_,aDN,Xb⟩:=aUN rfl;refine wp_region_any hm ?_;have Se:gV E X w0 ρ (fun i=>i<st.n) st.fr st.hp a { w with drawn:=w.drawn+1 }:=hs.drew;refine vG.wpAny hT hC Q ops.size rfl ops.size ds _ ρ a _ st eI hlen (by simp) (fun i=>?_) ?_ aDN Xb (fun j o hj _=>?_) eY (Se.pC (fun i hi=>.inl hi)) (fun ρ' a' w' nY=>hQ eI ρ' a' w' hK (nY.pC pK))
  ·rw[Hb];constructor
   ·intro hi;exact⟨hi,by rw[Array.getD_eq_getD_getElem?,Array.getElem?_replicate,if_pos hi];rfl⟩
   ·exact fun h=>h.1
  ·rw[Mr];exact List.pairwise_lt_range
  ·exfalso;rw[Array.getD_eq_getD_getElem?,Array.getElem?_replicate]at hj;split at hj <;> cases hj
end
end AI
namespace AI
open Go Go.RowKit
section
variable {P:Program} {E:Env} {X:Nat->Prop} {w0:Old}
def Fm(n0:Nat)(st:St)(p s i:Nat)(kv:KV):Prop :=
 kv=(.any,none)\/(bLZ 1000000 s=true/\aEG st (s%1000000)=some (i,kv.1)/\kv.2=none/\n0<=i)\/(∃n,kv=(.v (.one (.buf p n)),st.hp i)/\st.fr (s%1000000)=.v (.one (.buf i n)))\/(kv=(.v (.one (.ptr p 0)),st.hp i)/\st.fr (s%1000000)=.v (.one (.ptr i 0)))\/(kv=(st.fr (s%1000000),none)/\∀i∈refs (st.fr (s%1000000)),i<n0)
def pM(s:Nat)(kv:KV):Bool:=kv.2.isSome||(bLZ 1000000 s&&(match kv.1 with | .any=>false |_=>true))
theorem Zi{st:St}{s i:Nat}{a:A}(h:aEG st s=some (i,a)):∃n sz f,st.fr s=.v (.one (.buf i n))/\a=.v (.one (.rows sz n f))/\toD st.hp (.v (.one (.buf i n)))=some (.rows sz n f):=by
 unfold aEG at h;split at h
 ·rename_i i' n hf;split at h
  ·rename_i e cs hb;split at h
   ·rename_i hc;cases h;refine⟨n,_,_,hf,rfl,?_⟩;simp only[toD,hb];rw[if_pos hc]
   ·cases h
  ·cases h
 ·cases h
theorem Az(n0:Nat)(st:St):∀(keep:List Nat) (p:Nat) (seen:List Nat),(∀x,x<n0->x∈seen)->∃Mp:Nat->Nat,(canonGo n0 st keep p seen).length=keep.length /\
  (∀(k s:Nat),keep[k]?=some s->∃kv,(canonGo n0 st keep p seen)[k]?=some kv/\Fm n0 st (p+k) s (Mp k) kv/\(pM s kv=true->Mp k ∉ seen)) /\
  (∀(k k' s s':Nat) (kv Iv:KV),keep[k]?=some s->keep[k']?=some s'->(canonGo n0 st keep p seen)[k]?=some kv->(canonGo n0 st keep p seen)[k']?=some Iv->pM s kv=true->pM s' Iv=true->Mp k=Mp k'->k=k')
 | [],p,seen,_=>⟨fun _=>0,rfl,fun k s h=>by simp at h,fun k k' s s' kv Iv h=>by simp at h⟩
 |s :: keep,p,seen,hn=>by
  have core:∀(kv:KV) (i:Nat) (Ga:List Nat),(∀x∈seen,x∈Ga)->(pM s kv=true->i∈Ga/\i ∉ seen)->Fm n0 st p s i kv->canonGo n0 st (s :: keep) p seen=kv :: canonGo n0 st keep (p+1) Ga ->
    ∃Mp:Nat->Nat,(canonGo n0 st (s :: keep) p seen).length=(s :: keep).length /\
    (∀(k s':Nat),(s :: keep)[k]?=some s'->∃kv,(canonGo n0 st (s :: keep) p seen)[k]?=some kv/\Fm n0 st (p+k) s' (Mp k) kv/\(pM s' kv=true->Mp k ∉ seen)) /\
    (∀(k k' s1 s2:Nat) (kv Iv:KV),(s :: keep)[k]?=some s1->(s :: keep)[k']?=some s2->(canonGo n0 st (s :: keep) p seen)[k]?=some kv->(canonGo n0 st (s :: keep) p seen)[k']?=some Iv->pM s1 kv=true->pM s2 Iv=true->Mp k=Mp k'->k=k'):=by
   intro kv i Ga bDW hi bAB heq;obtain⟨Mp,h1,h2,h3⟩:=Az n0 st keep (p+1) Ga (fun x hx=>bDW x (hn x hx));rw[heq];have aLP:∀(k s':Nat) (Iv:KV),keep[k]?=some s'->(canonGo n0 st keep (p+1) Ga)[k]?=some Iv->pM s' Iv=true->Mp k ∉ Ga:=by
    intro k s' Iv nY hk hs;obtain⟨aYF,e1,_,e3⟩:=h2 k s' nY;rw[hk]at e1;cases e1;exact e3 hs
   refine⟨fun k=>if k=0 then i else Mp (k-1),by simp[h1],?_,?_⟩
   ·intro k s' hk
    match k with
    |0=>simp at hk;subst hk;exact⟨kv,rfl,by simpa using bAB,fun h=>by simpa using (hi h).2⟩
    |k+1 =>
     simp at hk;obtain⟨Iv,e1,e2,e3⟩:=h2 k s' hk;refine⟨Iv,by simpa using e1,?_,fun h=>?_⟩
     ·simp only[bOT,if_false,bOU];rw[show p+(k+1)=p+1+k by omega];exact e2
     ·simp only[bOT,if_false,bOU];exact fun hm=>e3 h (bDW _ hm)
   ·intro k k' s1 s2 bDG aYF Se Ix hk Sh hs nY he
    match k,k' with
    |0,0=>rfl
    |0,k'+1 =>
     simp at hk Sh Se Ix;subst hk;subst Se;simp at he;exact absurd (hi hs).1 (by rw[he];exact aLP k' s2 aYF Ix Sh nY)
    |k+1,0 =>
     simp at hk Sh Se Ix;subst Sh;subst Ix;simp at he;exact absurd (hi nY).1 (by rw[<-he];exact aLP k s1 bDG Se hk hs)
    |k+1,k'+1 =>
     simp at hk Sh he Se Ix;have:=h3 k k' s1 s2 bDG aYF Se Ix hk Sh hs nY he;omega
  have Au:canonGo n0 st (s :: keep) p seen=(.any,none) :: canonGo n0 st keep (p+1) seen->_:=core (.any,none) 0 seen (fun _ h=>h) (fun h=>by simp[pM]at h) (.inl rfl);cases hz:bLZ 1000000 s with
  |true =>
   cases hv:aEG st (s%1000000)with
   |none=>exact Au (by simp only[canonGo,hz,cond_true,hv])
   |some q =>
    obtain⟨i,a⟩:=q;cases Sd:seen.elem i with
    |true=>exact Au (by simp only[canonGo,hz,cond_true,hv,Sd])
    |false =>
     have Cm:i ∉ seen:=by simpa using Sd
     exact core (a,none) i (i :: seen) (fun _ h=>bMP _ h) (fun _=>⟨bMD ..,Cm⟩) (.inr (.inl ⟨hz,hv,rfl,Nat.le_of_not_lt fun iN=>Cm (hn i iN)⟩)) (by simp only[canonGo,hz,cond_true,hv,Sd,cond_false])
  |false =>
  have Yo:∀a,pM s (a,none)=true->False:=by
   intro a h;simp[pM,hz]at h
  cases hf:st.fr (s%1000000)with
  |any=>exact Au (by simp only[canonGo,hz,cond_false,hf])
  |It xs=>exact Au (by simp only[canonGo,hz,cond_false,hf])
  |v x =>
   cases x with
   |agg cs=>exact core (.v (.agg cs),none) 0 seen (fun _ h=>h) (fun h=>(Yo _ h).elim) (.inr (.inr (.inr (.inr ⟨by rw[hf],by rw[hf];intro i hi;cases hi⟩)))) (by simp only[canonGo,hz,cond_false,hf])
   |one l =>
    cases l with
    |s x=>exact core (.v (.one (.s x)),none) 0 seen (fun _ h=>h) (fun h=>(Yo _ h).elim) (.inr (.inr (.inr (.inr ⟨by rw[hf],by rw[hf];intro i hi;cases hi⟩)))) (by simp only[canonGo,hz,cond_false,hf])
    |rows sz n f=>exact core (.v (.one (.rows sz n f)),none) 0 seen (fun _ h=>h) (fun h=>(Yo _ h).elim) (.inr (.inr (.inr (.inr ⟨by rw[hf],by rw[hf];intro i hi;cases hi⟩)))) (by simp only[canonGo,hz,cond_false,hf])
    |Jq cs=>exact core (.v (.one (.Jq cs)),none) 0 seen (fun _ h=>h) (fun h=>(Yo _ h).elim) (.inr (.inr (.inr (.inr ⟨by rw[hf],by rw[hf];intro i hi;cases hi⟩)))) (by simp only[canonGo,hz,cond_false,hf])
    |Ns k ns=>exact core (.v (.one (.Ns k ns)),none) 0 seen (fun _ h=>h) (fun h=>(Yo _ h).elim) (.inr (.inr (.inr (.inr ⟨by rw[hf],by rw[hf];intro i hi;cases hi⟩)))) (by simp only[canonGo,hz,cond_false,hf])
    |Mn i j=>exact Au (by simp only[canonGo,hz,cond_false,hf])
    |view i off n =>
     cases Sd:bMH i n0 with
     |false=>exact Au (by simp only[canonGo,hz,hf,Sd,cond_false])
     |true =>
      have iN:i<n0:=by rw[Nat.blt_eq]at Sd;exact Sd
      exact core (.v (.one (.view i off n)),none) 0 seen (fun _ h=>h) (fun h=>(Yo _ h).elim) (.inr (.inr (.inr (.inr ⟨by rw[hf],by rw[hf];intro j hj;simp[refs,refsV,refsL]at hj;omega⟩)))) (by simp only[canonGo,hz,cond_false,hf,Sd,cond_true])
    |buf i n =>
     cases Sd:seen.elem i with
     |true=>exact Au (by simp only[canonGo,hz,cond_false,hf,Sd,cond_true])
     |false =>
      have Cm:i ∉ seen:=by simpa using Sd
      exact core (.v (.one (.buf p n)),st.hp i) i (i :: seen) (fun _ h=>bMP _ h) (fun _=>⟨bMD ..,Cm⟩) (.inr (.inr (.inl ⟨n,rfl,hf⟩))) (by simp only[canonGo,hz,hf,Sd,cond_false])
    |ptr i off =>
     match off with
     |0 =>
      cases Sd:seen.elem i with
      |true=>exact Au (by simp only[canonGo,hz,cond_false,hf,Sd,cond_true])
      |false =>
       have Cm:i ∉ seen:=by simpa using Sd
       exact core (.v (.one (.ptr p 0)),st.hp i) i (i :: seen) (fun _ h=>bMP _ h) (fun _=>⟨bMD ..,Cm⟩) (.inr (.inr (.inr (.inl ⟨rfl,hf⟩)))) (by simp only[canonGo,hz,hf,Sd,cond_false])
     |off+1=>exact Au (by simp only[canonGo,hz,cond_false,hf])
theorem Dk(t:Nat):∀(keep:List Nat) (l:List KV),slotGo t keep l=.any\/∃(k s:Nat) (kv:KV),keep[k]?=some s/\t=s%1000000/\l[k]?=some kv/\slotGo t keep l=kv.1
 | [],_=>.inl (by simp[slotGo])
 |_ :: _,[]=>.inl (by simp[slotGo])
 |s :: keep,kv :: l=>by
  simp only[slotGo];cases hb:bLX t (s%1000000)with
  |true=>exact .inr ⟨0,s,kv,rfl,bMK hb,rfl,rfl⟩
  |false =>
   rcases Dk t keep l with h |⟨k,s',Iv,h1,h0,h2,h3⟩
   ·exact .inl h
   ·exact .inr ⟨k+1,s',Iv,by simpa using h1,h0,by simpa using h2,h3⟩
theorem Hs:∀(l:List KV) (i:Nat) (b:iM),blkGo i l=some b->∃kv,l[i]?=some kv/\kv.2=some b
 | [],i,b,h=>by simp[blkGo]at h
 |kv :: l,0,b,h=>⟨kv,rfl,h⟩
 |kv :: l,i+1,b,h=>by
  obtain⟨Iv,h1,h2⟩:=Hs l i b h;exact⟨Iv,by simpa using h1,h2⟩
theorem Ky:∀(l:List KV) (i:Nat) (kv:KV),l[i]?=some kv->blkGo i l=kv.2
 | [],i,kv,h=>by simp at h
 |bHB :: l,0,kv,h=>by simp at h;subst h;rfl
 |bHB :: l,i+1,kv,h=>Ky l i kv (by simpa using h)
theorem Ds(st:St):∀(n i:Nat),(canonIO st n i).length=n
 |0,_=>rfl
 |n+1,i=>by simp[canonIO,Ds st n]
theorem Du(st:St):∀(n i k:Nat) (r:List KV),k<n->blkGo k (canonIO st n i ++ r)=st.hp (i+k)
 |0,_,_,_,h=>by omega
 |n+1,i,0,r,_=>rfl
 |n+1,i,k+1,r,h=>by
  simp only[canonIO,bNO,blkGo];rw[Du st n (i+1) k r (by omega)];congr 1;omega
theorem Ay(st:St):∀(n i k:Nat) (r:List KV),blkGo (n+k) (canonIO st n i ++ r)=blkGo k r
 |0,_,k,r=>by simp[canonIO]
 |n+1,i,k,r=>by
  rw[show n+1+k=(n+k)+1 by omega];simp only[canonIO,bNO,blkGo];exact Ay st n (i+1) k r
theorem Cx:∀{n i:Nat},i<n->i∈below n
 |n+1,i,h=>by
  unfold below
  by_cases hi:i=n
  ·subst hi;exact bMD ..
  ·exact bMP _ (Cx (by omega))
theorem Ct{ρ:Nat->Nat}{al:Nat->Prop}{st:St}{a:Act}{w:World}(h:gV E X w0 ρ al st.fr st.hp a w)(keep:List Nat) :
  ∃ρ',gV E X w0 ρ' (fun i=>i<(mk E.n0 keep (canon E.n0 keep st)).n) (mk E.n0 keep (canon E.n0 keep st)).fr (mk E.n0 keep (canon E.n0 keep st)).hp a w:=by
 obtain⟨n0,Eg⟩:∃n0,n0=E.n0:=⟨_,rfl⟩;rw[<-Eg];obtain⟨Mp,h1,h2,h3⟩:=Az n0 st keep n0 (below n0) (fun x hx=>Cx hx);obtain⟨C,hC⟩:∃C,C=canonGo n0 st keep n0 (below n0):=⟨_,rfl⟩;have aTX:canon n0 keep st=canonIO st n0 0 ++ C:=by rw[hC];rfl
 rw[<-hC]at h1 h2 h3;rw[aTX];have aDW:(canonIO st n0 0 ++ C).drop n0=C:=by
  have:=bOO (l₁:=canonIO st n0 0) (l₂:=C);rwa [Ds]at this
 obtain⟨tI,Mu⟩:∃tI,tI=(mk n0 keep (canonIO st n0 0 ++ C)).hp:=⟨_,rfl⟩;rw[<-Mu];have Ts:∀q,q<n0->tI q=st.hp q:=fun q hq=>by
  rw[Mu];have:=Du st n0 0 q C hq;rw[bLY]at this;exact this
 have Si:∀k,tI (n0+k)=blkGo k C:=fun k=>by rw[Mu];exact Ay st n0 0 k C
 have aQS:∀t,(mk n0 keep (canonIO st n0 0 ++ C)).fr t=slotGo t keep C:=fun t=>by
  show slotGo t keep ((canonIO st n0 0 ++ C).drop n0)=_;rw[aDW]
 have hn:(mk n0 keep (canonIO st n0 0 ++ C)).n=n0+keep.length:=rfl;obtain⟨aAL,aUF⟩:∃aAL:Nat->Nat,aAL=fun q=>if q<n0 then q else Mp (q-n0):=⟨_,rfl⟩
 have aJA:∀q,q<n0->aAL q=q:=fun q hq=>by rw[aUF];simp only;rw[if_pos hq]
 have aDV:∀k,aAL (n0+k)=Mp k:=fun k=>by rw[aUF];simp only;rw[aX];congr 1;omega
 have aHF:∀(k:Nat) (b:iM),blkGo k C=some b->k<keep.length/\st.hp (Mp k)=some b/\n0<=Mp k/\∃kv,C[k]?=some kv/\kv.2=some b:=by
  intro q b hq;obtain⟨kv,hk,hb⟩:=Hs _ q b hq;have iN:q<keep.length:=by have:=aR hk;omega
  obtain⟨s,hs⟩:=aY iN;obtain⟨Iv,e1,e2,e3⟩:=h2 q s hs;rw[hk]at e1;cases e1;refine⟨iN,?_,?_,kv,hk,hb⟩
  ·rcases e2 with rfl |⟨_,_,h9,_⟩ |⟨n,rfl,_⟩ |⟨rfl,_⟩ |⟨rfl,_⟩
   ·cases hb
   ·rw[h9]at hb;cases hb
   ·exact hb
   ·exact hb
   ·cases hb
  ·have:=e3 (by unfold pM;rw[hb];rfl);rcases bML (Mp q) n0 with h4 |h4
   ·exact absurd (Cx h4) this
   ·exact h4
 have Qh:∀(q:Nat) (b:iM),tI q=some b->st.hp (aAL q)=some b/\q<n0+keep.length:=by
  intro q b hq;rcases bML q n0 with h4 |h4
  ·rw[Ts q h4]at hq;exact⟨by rw[aJA q h4];exact hq,by omega⟩
  ·obtain⟨k,rfl⟩:=bNB h4;rw[Si]at hq;obtain⟨h5,h6,_⟩:=aHF k b hq;exact⟨by rw[aDV];exact h6,by omega⟩
 have pZ:∀b,XO X (fun q=>ρ (aAL q)) tI b->XO X ρ st.hp b:=by
  rintro b (hb |⟨q,bl,h4,h5⟩)
  ·exact .inl hb
  ·exact .inr ⟨aAL q,bl,(Qh q bl h4).1,h5⟩
 have hl:fV (XO X ρ st.hp) w (XO X (fun q=>ρ (aAL q)) tI) w:=⟨bLW _,fun b _ hx=>⟨rfl,fun hb=>hx (pZ b hb)⟩⟩;have key:∀t,vI (fun q=>ρ (aAL q)) tI (XO X (fun q=>ρ (aAL q)) tI) w (slotGo t keep C) (a.tmps.getD t undef)/\∀i∈refs (slotGo t keep C),i<n0+keep.length:=by
  intro t;rcases Dk t keep C with he |⟨k,s,kv,hk,aWJ,aWQ,he⟩
  ·rw[he];exact⟨trivial,by simp[refs]⟩
  ·rw[he];obtain⟨Iv,e1,e2,e3⟩:=h2 k s hk;rw[aWQ]at e1;cases e1;have iN:=aR hk;have hr:=h.fr t;have aUR:=Ky _ k kv aWQ;unfold Fm at e2;rw[<-aWJ]at e2;rcases e2 with rfl |⟨hz,hfz,h9,bFG⟩ |⟨n,rfl,hf⟩ |⟨rfl,hf⟩ |⟨rfl,hf⟩
   ·exact⟨trivial,by simp[refs]⟩
   ·obtain⟨n,sz,f,hf,ha,hd⟩:=Zi hfz;rw[hf]at hr;have aAS:pM s kv=true:=by unfold pM;rw[hz,ha];simp
    have bHV:=Bs h (u:=[(Mp k,none)]) (fun p hp=>by simp at hp;rw[hp]) hr (fun i hi=>by simp[refs,refsV,refsL]at hi;rw[hi];simp) hd;rw[ha];refine⟨lK.later (d:=.rows sz n f) ⟨bLW _,fun b _ hx=>⟨rfl,fun hb=>hx ?_⟩⟩ bHV,by intro i hi;cases hi⟩;rcases hb with hb |⟨q,bl,h4,h5⟩
    ·exact .inl hb
    ·have h6:=Qh q bl h4;refine .inr ⟨aAL q,bl,?_,h5⟩;simp only[applyUps];rw[eG _ _ ?_]
     ·exact h6.1
     ·intro hq;rcases bML q n0 with h7 |h7
      ·rw[aJA q h7]at hq;omega
      ·obtain⟨k',rfl⟩:=bNB h7;rw[Si]at h4;obtain⟨h8,_,_,Iv,Sh,aDQ⟩:=aHF k' bl h4;obtain⟨s',nY⟩:=aY h8;rw[aDV]at hq;have:=h3 k' k s' s Iv kv nY hk Sh aWQ (by unfold pM;rw[aDQ];rfl) aAS hq;subst this;rw[aWQ]at Sh;cases Sh;rw[h9]at aDQ;cases aDQ
   ·rw[hf]at hr;obtain⟨cap,hv,yK,hc,aLY⟩:=hr;refine⟨⟨cap,by simp only[aDV];exact hv,yK,fun blk k1 ns hb Eh=>?_,fun blk cs hb Eh=>?_⟩,?_⟩
    ·rw[Si,aUR]at hb;have:=hc blk k1 ns hb Eh;simp only[aDV];exact this
    ·rw[Si,aUR]at hb;have:=aLY blk cs hb Eh;simp only[aDV];exact this
    ·intro i hi;simp[refs,refsV,refsL]at hi;omega
   ·rw[hf]at hr;refine⟨?_,?_⟩
    ·show _=_;simp only[aDV];exact hr
    ·intro i hi;simp[refs,refsV,refsL]at hi;omega
   ·refine⟨vI.later (al:=fun i=>i<n0) hl (fun i hi=>⟨by simp only[aJA i hi],fun b' vQ=>⟨b',by rw[<-Ts i hi];exact vQ,sameShape.refl _,rfl⟩⟩) hf hr,fun i hi=>?_⟩;have:=hf i hi;omega
 refine⟨fun q=>ρ (aAL q),{ fr:=fun t=>by rw[aQS];exact(key t).1,sz:=h.sz,nod:=h.nod,blk:=?_,inj:=?_,alh:=?_,alr:=fun t i hi=>by rw[aQS]at hi;exact(key t).2 i hi,below:=h.below,x0:=h.x0,glob:=h.glob,mg:=h.mg,al0:=fun i hi=>by show i<n0+keep.length;omega,qJ:=fun i hi=>by simp only[aJA i (by omega)];exact h.qJ i hi }⟩
 ·intro q b hq;have hb:=(Qh q b hq).1;refine⟨?_,(h.blk _ b hb).2.later hl rfl⟩;rcases bML q n0 with h4 |h4
  ·have:=(h.blk _ b hb).1;simp only[aJA q h4]at this ⊢;exact this
  ·obtain⟨k,rfl⟩:=bNB h4;rw[Si]at hq;obtain⟨_,_,h6,_⟩:=aHF k b hq;exact .inl ((h.blk _ b hb).1.new (by rw[aDV];omega))
 ·intro q q' b b' hq Wy he;have hb:=(Qh q b hq).1;have vQ:=(Qh q' b' Wy).1;have aJB:=h.inj _ _ b b' hb vQ he;rcases bML q n0 with h4 |h4
  ·rcases bML q' n0 with h5 |h5
   ·rw[aJA q h4,aJA q' h5]at aJB;exact aJB
   ·obtain⟨k,rfl⟩:=bNB h5;rw[Si]at Wy;obtain⟨_,_,h6,_⟩:=aHF k b' Wy;rw[aJA q h4,aDV]at aJB;omega
  ·obtain⟨k,rfl⟩:=bNB h4;rw[Si]at hq;obtain⟨_,_,h6,kv,hk,bIR⟩:=aHF k b hq;rcases bML q' n0 with h5 |h5
   ·rw[aJA q' h5,aDV]at aJB;omega
   ·obtain⟨k',rfl⟩:=bNB h5;rw[Si]at Wy;obtain⟨_,_,_,Iv,Sh,aDQ⟩:=aHF k' b' Wy;rw[aDV,aDV]at aJB;obtain⟨s1,Se⟩:=aY (l:=keep) (i:=k) (by have:=aR hk;omega);obtain⟨s2,Ix⟩:=aY (l:=keep) (i:=k') (by have:=aR Sh;omega);have:=h3 k k' s1 s2 kv Iv Se Ix hk Sh (by unfold pM;rw[bIR];rfl) (by unfold pM;rw[aDQ];rfl) aJB;omega
 ·intro q b hq;exact(Qh q b hq).2
def exitOf:Ex->Exit
 | .normal=>.normal
 | .exit id=>.exit id
 | .ret=>.ret
def KQ{R:Type}(E:Env)(X:Nat->Prop)(w0:Old)(K:Ex->St->Option R)(Q:Exit->Act->World->Prop)(r:R):Prop :=
 ∀(ex:Ex) (st:St) (ρ:Nat->Nat) (a:Act) (w:World),K ex st=some r->gV E X w0 ρ (fun i=>i<st.n) st.fr st.hp a w->Q (exitOf ex) a w
theorem wR{R:Type}{c:Code}{keep:List Nat}{r:R}{Q:Exit->Act->World->Prop}{K:Ex->St->Option R}(bBA:KQ E X w0 K Q r)
  (ih:∀(st:St) (K:Ex->St->Option R) (Q:Exit->Act->World->Prop) (ρ:Nat->Nat) (a:Act) (w:World),gV E X w0 ρ (fun i=>i<st.n) st.fr st.hp a w->evalCode E c st K=some r->KQ E X w0 K Q r->c.wp P Q a w) :
  ∀(n:Nat) (l:List KV) (ρ:Nat->Nat) (a:Act) (w:World),iter (fun rec l=>evalCode E c (mk E.n0 keep l) fun ex eI=>match ex with
    | .normal=>rec (canon E.n0 keep eI)
    | .exit i=>K (.exit i) eI
    | .ret=>K .ret eI) n l=some r->gV E X w0 ρ (fun i=>i<(mk E.n0 keep l).n) (mk E.n0 keep l).fr (mk E.n0 keep l).hp a w->Code.rounds P c Q n a w
 |0,l,ρ,a,w,h,_=>by cases h
 |n+1,l,ρ,a,w,h,hs=>by
  rw[rounds_succ];refine ih (mk E.n0 keep l) _ _ ρ a w hs h ?_;intro ex eI ρ' a' w' he nY;cases ex with
  |normal =>
   obtain⟨ρ2,Ix⟩:=Ct nY keep;exact wR bBA ih n _ ρ2 a' w' he Ix
  |exit i=>exact bBA (.exit i) eI ρ' a' w' he nY
  |ret=>exact bBA .ret eI ρ' a' w' he nY
theorem aEI{α R:Type}{G:(α->Option R)->α->Option R}{x:α}{r:R}(h:fix G x=some r):∃n,iter G n x=some r:=by
 unfold fix at h;split at h
 ·rename_i hex;cases h;exact Classical.choose_spec hex
 ·cases h
theorem Ui(hT:mG P E.T)(hC:iT P E)(hm:P.follows .mixedOrders=true){R:Type}(r:R):∀(c:Code) (st:St) (K:Ex->St->Option R) (Q:Exit->Act->World->Prop) (ρ:Nat->Nat) (a:Act) (w:World),
  gV E X w0 ρ (fun i=>i<st.n) st.fr st.hp a w->evalCode E c st K=some r->KQ E X w0 K Q r->c.wp P Q a w:=by
 intro c
 induction c with
 |skip=>intro st K Q ρ a w hs he hK;exact wp_skip (hK .normal st ρ a w he hs)
 |label l=>intro st K Q ρ a w hs he hK;exact wp_label (hK .normal st ρ a w he hs)
 |exit id=>intro st K Q ρ a w hs he hK;exact wp_exit (hK (.exit id) st ρ a w he hs)
 |ret=>intro st K Q ρ a w hs he hK;exact wp_ret (hK .ret st ρ a w he hs)
 |region id ops draw =>
  intro st K Q ρ a w hs he hK;unfold evalCode at he;exact Ma hT hC hm hs he Q (fun eI ρ' a' w' hk nY=>hK .normal _ ρ' a' w' hk nY)
 |seq x y aWE aSN =>
  intro st K Q ρ a w hs he hK;unfold evalCode at he;refine wp_seq (aWE st _ _ ρ a w hs he ?_);intro ex eI ρ' a' w' hk nY;cases ex with
  |normal =>
   simp only at hk;split at hk
   ·rename_i keep _;obtain⟨ρ2,Ix⟩:=Ct nY keep;unfold yC at hk;exact aSN _ K Q ρ2 a' w' Ix hk hK
   ·exact aSN eI K Q ρ' a' w' nY hk hK
  |exit i=>exact hK (.exit i) eI ρ' a' w' hk nY
  |ret=>exact hK .ret eI ρ' a' w' hk nY
 |cond c x y aWE aSN =>
  intro st K Q ρ a w hs he hK;unfold evalCode at he;split at he
  ·rename_i s;split at he
   ·rename_i t ht;have hr:=hs.fr s;rw[ht]at hr;have hv:a.eval (.tmp s)=.bool t:=hr.1;have e0:xQ st.fr s (yJ (.bool t))=st.fr:=Vk st.fr s t ht;refine wp_cond hv ?_;cases t with
    |true=>simp only[cond_true,e0]at he;exact aWE _ K Q ρ a w hs he hK
    |false=>simp only[cond_false,e0]at he;exact aSN _ K Q ρ a w hs he hK
   ·cases he
  ·rename_i t;refine wp_cond (t:=t) rfl ?_;cases t with
   |true=>simp only[cond_true]at he;exact aWE _ K Q ρ a w hs he hK
   |false=>simp only[cond_false]at he;exact aSN _ K Q ρ a w hs he hK
  ·cases he
 |block id c ih =>
  intro st K Q ρ a w hs he hK;unfold evalCode at he;refine wp_block (ih st _ _ ρ a w hs he ?_);intro ex eI ρ' a' w' hk nY;cases ex with
  |normal=>exact hK .normal eI ρ' a' w' hk nY
  |ret=>exact hK .ret eI ρ' a' w' hk nY
  |exit i =>
   simp only[exitOf,Exit.inBlock];simp only at hk;cases hb:bLX i id with
   |true =>
    rw[hb]at hk;rw[if_pos (bMK hb)];exact hK .normal eI ρ' a' w' hk nY
   |false =>
    rw[hb]at hk;rw[if_neg (bOA hb)];exact hK (.exit i) eI ρ' a' w' hk nY
 |loop c ih =>
  intro st K Q ρ a w hs he hK;unfold evalCode at he;obtain⟨ρ2,Ix⟩:=Ct hs (E.keep (keyOf c));split at he
  ·rename_i n _;exact wp_loop_rounds n (wR hK ih n _ ρ2 a w he Ix)
  ·obtain⟨n,hn⟩:=aEI he;exact wp_loop_rounds n (wR hK ih n _ ρ2 a w hn Ix)
 |rangeFunc f ps x y _ _=>intro st K Q ρ a w hs he hK;unfold evalCode at he;cases he
 |scope c ih =>
  intro st K Q ρ a w hs he hK;unfold evalCode at he;refine wp_scope_straight (ih st K _ ρ a w hs he ?_);intro ex eI ρ' a' w' hk nY;have:=hK ex eI ρ' a' w' hk nY;cases ex <;> exact this
 |goto l=>intro st K Q ρ a w hs he hK;unfold evalCode at he;cases he
 |refuse bCR=>intro st K Q ρ a w hs he hK;unfold evalCode at he;cases he
end
end AI
end Go.Proofs.YtcnlagnipklcmaaGreatDoor
end
