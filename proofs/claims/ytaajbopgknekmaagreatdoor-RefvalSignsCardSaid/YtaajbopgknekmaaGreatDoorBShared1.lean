/- Contracts of functions (their ground), for the claim. -/
import Derived.WalkKit
import Derived.Laws.CopyOwn
import Derived.LoopN
import Derived.Laws.StructEq
import Derived.Scope
set_option linter.unusedVariables false
set_option linter.unusedSimpArgs false
noncomputable section
open Go.IntKind(i8 i16 i32 i64 u8 u16 u32 u64)
open Nat renaming beq->bXI,le_refl->bXK,zero_add->bXL,blt->bXP,ble->bXS,eq_of_beq_eq_true->bXT,lt_or_ge->bXZ,mul_one->bYB,le_trans->bYC,lt_of_lt_of_le->bYH,add_zero->bYI,exists_eq_add_of_le->bYQ,blt_eq->bYT,le_of_ble_eq_true->bZF,ne_of_beq_eq_false->bZL,mul_le_mul_left->bZW,add_one_ne_zero->cAE,add_sub_cancel->cAF
open List renaming map_cons->bXJ,getElem?_map->bXM,mem_cons_self->bXO,mem_of_getElem?->bXQ,getElem?_take_of_lt->bXU,getElem?_drop->bXV,mem_cons_of_mem->bXX,getElem?_eq_getElem->bXY,mem_singleton->bYA,map_append->bYD,mapM_cons->bYE,map_nil->bYF,getElem?_of_mem->bYJ,mem_append->bYK,map_toArray->bYL,mem_cons->bYO,range->bYR,cons_append->bYS,map_congr_left->bYU,length_map->bYW,getD->bYX,append_assoc->bYY,getElem?_eq_none->bYZ,take_left->bZA,eq_nil_of_length_eq_zero->bZB,length_take->bZC,getElem?_cons_succ->bZD,mem_append_right->bZE,Pairwise->bZG,mem_range->bZJ,replicate->bZK,getElem?_append_left->bZM,getElem?_append_right->bZN,size_toArray->bZX,length_append->bZY,drop_left->bZZ,flatMap_def->cAC,append_nil->cAG
open Bool renaming and_eq_true->bXN,not_eq_true'->bYM,or_eq_true->bYP,not_true->bZH,false_or->bZI
open Option renaming bind_assoc->bXR,map_some->bXW,map_eq_some_iff->bYG,bind_some->bYV,bind_eq_bind->bZO,pure_def->bZP,bind_eq_some_iff->bZQ,map_none->bZT,getD_some->cAD
open Int renaming mul_le_mul_of_nonneg_right->bZS
namespace Go.Proofs.YtaajbopgknekmaaGreatDoor
theorem aT{α:Sort _}{c:Prop}[Decidable c]{a b:α}(h:c:=by omega):ite c a b=a:=if_pos h
theorem bG{α:Sort _}{c:Prop}[Decidable c]{a b:α}(h:¬c:=by omega):ite c a b=b:=if_neg h
theorem cB{a n:Nat}(h:0<a:=by omega):0<a^n:=Nat.pow_pos h
theorem fM{b m n:Nat}(h:0<b:=by omega)(h':m<=n:=by omega):b^m<=b^n:=Nat.pow_le_pow_right h h'
namespace M
open Go
theorem It(n:Int):i64.wrap n=if n%18446744073709551616>=9223372036854775808 then n%18446744073709551616-18446744073709551616 else n%18446744073709551616:=by
 show(if(true&&decide (n%18446744073709551616>=9223372036854775808))=true then n%18446744073709551616-18446744073709551616 else n%18446744073709551616)=_;simp only[Bool.true_and,decide_eq_true_eq]
theorem wrap_i64{n:Int}(h:-9223372036854775808<=n:=by omega)(h':n<9223372036854775808:=by omega):i64.wrap n=n:=by
 rw[It];split <;> omega
theorem gA(n:Int):u64.wrap n=n%18446744073709551616:=by
 show(if(false&&decide (n%18446744073709551616>=9223372036854775808))=true then n%18446744073709551616-18446744073709551616 else n%18446744073709551616)=_;simp
theorem wrap_u64{n:Int}(h:0<=n:=by omega)(h':n<18446744073709551616:=by omega):u64.wrap n=n:=by
 rw[gA];omega
theorem wrap_u32(n:Int):u32.wrap n=n%4294967296:=by
 show(if(false&&decide (n%4294967296>=2147483648))=true then n%4294967296-4294967296 else n%4294967296)=_;simp
end M
namespace AI
open Go Go.RowKit
def leB:Int->Int->Bool
 | .ofNat m,.ofNat n=>bXS m n
 | .negSucc _,.ofNat _=>true
 | .ofNat _,.negSucc _=>false
 | .negSucc m,.negSucc n=>bXS n m
theorem Ks(a b:Int):leB a b=true↔a<=b:=by
 cases a <;> cases b <;> simp only[leB,Nat.ble_eq,Bool.false_eq_true,true_iff,false_iff,Int.ofNat_eq_natCast] <;> omega
instance (priority:=2000) decLeI (a b:Int):Decidable (a<=b):=match h:leB a b with
 |true=>isTrue ((Ks a b).1 h)
 |false=>isFalse fun h'=>by rw[(Ks a b).2 h']at h;cases h
instance (priority := 2000) decLtI (a b : Int) : Decidable (a < b) := match h : leB b a with
  | true => isFalse fun h' => by have := (Ks b a).1 h; omega
  | false => isTrue (by have h1 : ¬ b ≤ a := fun h' => by rw [(Ks b a).2 h'] at h; cases h
                        omega)
inductive S where
 |sc (v:Value)
 |ints (k:IntKind) (ns:List Int)
 |bot
inductive L where
 |s (x:S)
 |rows (sz n:Nat) (f:Nat->List S)
 |Px (cs:List S)
 |Tx (k:IntKind) (ns:List Int)
 |ptr (id off:Nat)
 |Sv (id i:Nat)
 |buf (id n:Nat)
 |view (id off n:Nat)
inductive V where
 |one (l:L)
 |agg (cs:List S)
inductive A where
 |v (x:V)
 |Ph (xs:List V)
 |any
inductive oI where
 |ints (k:IntKind) (ns:List Int)
 |cells (cs:List S)
structure mI where
 e:TypeId
 cont:oI
structure St where
 fr:Nat->A
 hp:Nat->Option mI
 n:Nat
inductive D where
 |s (x:S)
 |rows (sz n:Nat) (f:Nat->List S)
 |agg (cs:List S)
 |own (e:TypeId) (k:IntKind) (ns:List Int)
 |io (e:TypeId) (k:IntKind) (ns:List Int) (off n:Nat)
 |back (i off n:Nat)
inductive TK where
 |bool
 |int (k:IntKind)
 |float (k:FloatKind)
 |other
 |struct (fs:List (Nat×Nat×Bool))
 |arr (len wT:Nat) (eagg:Bool)
 |slice (elem:TypeId)
 |str
structure TI where
 size:Nat
 bytes:Nat
 zero:List Value
 kind:TK
def TK.isAgg:TK->Bool
 | .struct _=>true
 | .arr _ _ _=>true
 |_=>false
abbrev Dh(v:Value):A:=.v (.one (.s (.sc v)))
abbrev Ck{α:Type}(f:Nat->α)(d:Nat)(a:α):Nat->α:=fun i=>bif bXI i d then a else f i
def bitsI0(op:BinOp)(k:IntKind)(x y:Int):Int :=
 match op with
 | .and=>k.wrap (BitVec.ofInt k.bits x &&& BitVec.ofInt k.bits y).toNat
 | .or=>k.wrap (BitVec.ofInt k.bits x |||BitVec.ofInt k.bits y).toNat
 | .xor=>k.wrap (BitVec.ofInt k.bits x ^^^ BitVec.ofInt k.bits y).toNat
 |_=>k.wrap (BitVec.ofInt k.bits x &&& ~~~(BitVec.ofInt k.bits y)).toNat
theorem Xv:∃f:BinOp->IntKind->Int->Int->Int,f=bitsI0:=⟨_,rfl⟩
def fU:BinOp->IntKind->Int->Int->Int:=Classical.choose Xv
theorem tG:fU=bitsI0:=Classical.choose_spec Xv
def binK{R:Type}(op:BinOp)(x y:Value)(K:Value->Option R):Option R :=
 match x,y with
 | .int k a,.int k' b =>
  match op with
  | .shl=>if b<0 then none else K (.int k (k.wrap (a*((2^(min b.toNat k.bits):Nat):Int))))
  | .shr=>if b<0 then none else K (.int k (a/((2^(min b.toNat k.bits):Nat):Int)))
  | .add=>if k=k' then K (.int k (k.wrap (a+b)))else none
  | .sub=>if k=k' then K (.int k (k.wrap (a-b)))else none
  | .mul=>if k=k' then K (.int k (k.wrap (a*b)))else none
  | .quo=>if k=k' then(if b=0 then none else K (.int k (k.wrap (a.tdiv b))))else none
  | .rem=>if k=k' then(if b=0 then none else K (.int k (a.tmod b)))else none
  | .and=>if k=k' then K (.int k (fU .and k a b))else none
  | .or=>if k=k' then K (.int k (fU .or k a b))else none
  | .xor=>if k=k' then K (.int k (fU .xor k a b))else none
  | .andNot=>if k=k' then K (.int k (fU .andNot k a b))else none
  | .eql=>if k=k' then K (.bool (a==b))else none
  | .neq=>if k=k' then K (.bool (a !=b))else none
  | .lss=>if k=k' then K (.bool (decide (a<b)))else none
  | .leq=>if k=k' then K (.bool (decide (a<=b)))else none
  | .gtr=>if k=k' then K (.bool (decide (b<a)))else none
  | .geq=>if k=k' then K (.bool (decide (b<=a)))else none
 | .float k a,.float k' b =>
  match op with
  | .add=>if k=k' then(k.format.add a b).bind fun r=>K (.float k r)else none
  | .sub=>if k=k' then(k.format.sub a b).bind fun r=>K (.float k r)else none
  | .mul=>if k=k' then(k.format.mul a b).bind fun r=>K (.float k r)else none
  | .quo=>if k=k' then(k.format.div a b).bind fun r=>K (.float k r)else none
  | .eql=>if k=k' then K (.bool (k.format.order a b==some .eq))else none
  | .neq=>if k=k' then K (.bool (k.format.order a b !=some .eq))else none
  | .lss=>if k=k' then K (.bool (k.format.order a b==some .lt))else none
  | .leq=>if k=k' then K (.bool (k.format.order a b==some .lt||k.format.order a b==some .eq))else none
  | .gtr=>if k=k' then K (.bool (k.format.order a b==some .gt))else none
  | .geq=>if k=k' then K (.bool (k.format.order a b==some .gt||k.format.order a b==some .eq))else none
  |_=>none
 | .bool a,.bool b =>
  match op with
  | .eql=>K (.bool (a==b))
  | .neq=>K (.bool (a !=b))
  |_=>none
 |_,_=>none
def boolT(t:Option TI)(a:Value):Bool:=match a with
 | .bool _=>match t with
  |some ⟨_,_,_,.bool⟩=>true
  |_=>false
 |_=>true
def unK{R:Type}(op:UnOp)(x:Value)(K:Value->Option R):Option R :=
 match op,x with
 | .neg,.int k n=>K (.int k (k.wrap (0-n)))
 | .xor,.int k n=>K (.int k (fU .xor k (if k.signed then -1 else k.max) n))
 | .neg,.float k b=>K (.float k (Op.negFloat k b))
 | .not,.bool b=>K (.bool (!b))
 |_,_=>none
def convK{R:Type}(dst:TK)(x:Value)(K:Value->Option R):Option R :=
 match dst,x with
 | .int k,.int _ n=>K (.int k (k.wrap n))
 | .float k,.int _ n=>K (.float k (k.nearest n))
 | .int k,.float s b=>((s.decode b).toInt .zero).bind fun n=>if k.min<=n/\n<=k.max then K (.int k n)else none
 | .float k,.float s b=>if s=k then K (.float k b)else none
 |_,_=>none
def refsL:L->List Nat
 | .ptr id _=>[id]
 | .Sv id _=>[id]
 | .buf id _=>[id]
 | .view id _ _=>[id]
 |_=>[]
def refsV:V->List Nat
 | .one l=>refsL l
 | .agg _=>[]
def refs:A->List Nat
 | .v x=>refsV x
 | .Ph xs=>xs.flatMap refsV
 | .any=>[]
def cellsOf(hp:Nat->Option mI):A->Option (List S×List (Nat×Option mI))
 | .v (.agg cs)=>some (cs,[])
 | .v (.one (.s x))=>some ([x],[])
 | .v (.one (.buf id _))=>match hp id with
  |some ⟨_,.ints k ns⟩=>some ([.ints k ns],[(id,none)])
  |_=>none
 | .v (.one (.view id off n))=>match hp id with
  |some ⟨_,.ints k ns⟩=>some ([.ints k ((ns.drop off).take n)],[(id,none)])
  |_=>none
 |_=>none
def toD(hp:Nat->Option mI):A->Option D
 | .v (.agg cs)=>some (.agg cs)
 | .v (.one (.s x))=>some (.s x)
 | .v (.one (.rows sz n f))=>some (.rows sz n f)
 | .v (.one (.buf id n))=>match hp id with
  |some ⟨_,.ints k ns⟩=>some (.s (.ints k ns))
  |some ⟨_,.cells cs⟩=>if n*(cs.length/n)=cs.length/\0<n then some (.rows (cs.length/n) n fun i=>(cs.drop (i*(cs.length/n))).take (cs.length/n))else none
  |none=>none
 | .v (.one (.view id off n))=>match hp id with
  |some ⟨_,.ints k ns⟩=>some (.s (.ints k ((ns.drop off).take n)))
  |_=>none
 |_=>none
def setAt(cs:List S)(off:Nat)(new:List S):List S:=cs.take off ++ (new ++ cs.drop (off+new.length))
def fillK{R:Type}(hp:Nat->Option mI)(place:Nat->Option (Nat×Nat))(ev:Operand->A):List (Nat×Operand)->List S->List (Nat×Option mI)->(List S->List (Nat×Option mI)->Option R)->Option R
 | [],cs,aOK,K=>K cs aOK
 | (i,x) :: rest,cs,aOK,K =>
  match place i,cellsOf hp (ev x)with
  |some (off,size),some (new,u)=>if new.length=size/\off+new.length<=cs.length then fillK hp place ev rest (setAt cs off new) (aOK ++ u) K else none
  |_,_=>none
def partOf(ti:TI)(cs:List S)(off:Nat):Option V :=
 if _g:ti.kind.isAgg=true then(if _h:off+ti.size<=cs.length then some (.agg ((cs.drop off).take ti.size))else none)
 else match cs[off]? with
  |some c=>some (.one (.s c))
  |none=>none
def allInts(k:IntKind):List S->Option (List Int)
 | []=>some []
 | .sc (.int k' n) :: r=>if _h:k=k' then(allInts k r).map (n :: ·)else none
 |_ :: _=>none
def intsOf(hp:Nat->Option mI)(k:IntKind):A->Option (List Int)
 | .v (.one (.s (.ints k' ns)))=>if _h:k=k' then some ns else none
 | .v (.one (.s (.sc (.slice none 0 0))))=>some []
 | .v (.one (.buf id _))=>match hp id with
  |some ⟨_,.ints k' ns⟩=>if _h:k=k' then some ns else none
  |_=>none
 | .v (.one (.view id off n))=>match hp id with
  |some ⟨_,.ints k' ns⟩=>if _h:k=k' then some ((ns.drop off).take n)else none
  |_=>none
 |_=>none
def room:Int:=8796093022208
def takeIn(keep:Bool)(id:Nat):D->V×List (Nat×Option mI)
 | .s x=>(.one (.s x),[])
 | .rows sz n f=>(.one (.rows sz n f),[])
 | .agg cs=>(.agg cs,[])
 | .own e k ns=>bif keep then(.one (.buf id ns.length),[(id,some ⟨e,.ints k ns⟩)])else(.one (.s (.ints k ns)),[])
 | .io _ _ _ _ _=>(.one (.s .bot),[])
 | .back i off n=>(.one (.view i off n),[])
def takeAll(keep:Bool)(id:Nat):List D->List V×List (Nat×Option mI)
 | []=>([],[])
 |d :: r=>((takeIn keep id d).1 :: (takeAll keep (id+1) r).1,(takeIn keep id d).2 ++ (takeAll keep (id+1) r).2)
def Kd:S->Bool
 | .ints _ _=>true
 | .bot=>true
 | .sc (.slice (some _) _ _)=>true
 |_=>false
def shares:D->Bool
 | .s x=>Kd x
 | .rows _ _ _=>true
 | .agg cs=>cs.any Kd
 | .own _ _ _=>false
 | .io _ _ _ _ _=>true
 | .back _ _ _=>false
structure Env where
 T:TypeId->Option TI
 C:FuncId->List D->Option (Prop×List D)
 ext:FuncId->List Value->Option (Prop×List Value)
 glob:Nat->Option (IntKind×List Int)
 nt:Nat
 own:List Nat
 keep:Nat->List Nat
 roll:Nat->Option Nat
 cut:Nat->Option (List Nat)
 n0:Nat:=0
 io:List Nat:=[]
 ioF:FuncId->List Nat:=fun _=>[]
 wide:Option IntKind:=none
def wideS(w:Option IntKind)(v:Value):S:=match w with
 |none=>.sc v
 |some k=>match v with
  | .slice none 0 0=>.ints k []
  |v=>.sc v
def evA(E:Env)(fr:Nat->A):Operand->A
 | .tmp t=>fr t
 | .const v=>if _h:v.oneCell'=true then Dh v else .any
 | .global g=>match E.glob g with
  |some (k,ns)=>.v (.one (.Tx k ns))
  |none=>.any
 | .func f=>Dh (.func (.func f) #[] #[])
def funOf:A->Option FuncId
 | .v (.one (.s (.sc (.func (.func f) ⟨[]⟩ ⟨[]⟩))))=>some f
 |_=>none
abbrev tH:=List (Nat×Option mI)
def bndA(d:Int):Option A->Option Int
 |none=>some d
 |some (.v (.one (.s (.sc (.int _ n)))))=>some n
 |_=>none
def sliceK{R:Type}(len:Nat)(lo hi mx:Option A)(K:Nat->Nat->Option R):Option R :=
 match bndA 0 lo,bndA len hi,mx with
 |some l,some h,none=>if 0<=l/\l<=h/\h<=len then K l.toNat h.toNat else none
 |some l,some h,some mx=>match hi,bndA len (some mx)with
  |some _,some m=>if 0<=l/\l<=h/\h<=m/\m<=len then K l.toNat h.toNat else none
  |_,_=>none
 |_,_,_=>none
abbrev aD{R:Type}(b:Bool)(x y:Option R):Option R:=bif b then x else y
def splitN{R:Type}(n:Int):Nat->Nat->(Nat->Option R)->Option R
 |0,_,_=>none
 |m+1,j,K=>aD (decide (n=(j:Int))) (K j) (splitN n m (j+1) K)
def idxK{R:Type}(hp:Nat->Option mI)(t:TI)(wT:Nat)(x:A)(n:Int)(K:A->Option R):Option R :=
 match x with
 | .v (.one (.s (.ints k ns)))=>if wT=1 then(if 0<=n/\n<(ns.length:Int)then K (.v (.one (.Px [.sc (.int k (ns.getD n.toNat 0))])))else none)else none
 | .v (.one (.buf id m))=>match hp id with
  |some ⟨_,.ints _ _⟩=>if wT=1 then(if 0<=n/\n<(m:Int)then K (.v (.one (.Sv id n.toNat)))else none)else none
  |some ⟨_,.cells _⟩=>if 0<=n/\n<(m:Int)then K (.v (.one (.ptr id (n.toNat*wT))))else none
  |none=>none
 | .v (.one (.view id off m))=>match hp id with
  |some ⟨_,.ints _ _⟩=>if wT=1 then(if 0<=n/\n<(m:Int)then K (.v (.one (.Sv id (off+n.toNat))))else none)else none
  |_=>none
 | .v (.one (.rows sz m f))=>if sz=wT then(if 0<=n/\n<(m:Int)then K (.v (.one (.Px (f n.toNat))))else none)else none
 | .v (.one (.ptr id off))=>match t.kind with
  | .arr len _ _=>bif bXS len 8 then splitN n len 0 (fun j=>K (.v (.one (.ptr id (off+j*wT)))))else if 0<=n/\n<(len:Int)then K (.v (.one (.ptr id (off+n.toNat*wT))))else none
  |_=>none
 | .v (.one (.Tx k ns))=>match t.kind with
  | .arr len _ _=>if ns.length=len/\wT=1 then(if 0<=n/\n<(len:Int)then K (.v (.one (.Px [.sc (.int k (ns.getD n.toNat 0))])))else none)else none
  |_=>none
 |_=>none
def intArg:A->Option (IntKind×Int)
 | .v (.one (.s (.sc (.int k n))))=>some (k,n)
 |_=>none
def foldMM(op:BinOp)(k:IntKind):Int->List A->Option Int
 |n,[]=>some n
 |n,.v (.one (.s (.sc (.int k' m)))) :: r=>if _h:k=k' then foldMM op k (match op with | .gtr=>if m>n then m else n |_=>if m<n then m else n) r else none
 |_,_=>none
def lenA:A->Option Nat
 | .v (.one (.s (.ints _ ns)))=>some ns.length
 | .v (.one (.s (.sc (.slice none 0 0))))=>some 0
 | .v (.one (.buf _ n))=>some n
 | .v (.one (.view _ _ n))=>some n
 | .v (.one (.rows _ n _))=>some n
 |_=>none
def argVals:List A->Option (List Value)
 | []=>some []
 | .v (.one (.s (.sc v))) :: r=>(argVals r).map (v :: ·)
 |_ :: _=>none
def Iu(s:ByteArray)(n:Int):Int:=match s[n.toNat]? with
 |some b=>b.toNat
 |none=>0
def bBV:List Value->A
 | [v]=>Dh v
 |vs=>.Ph (vs.map fun v=>.one (.s (.sc v)))
def keepOf(E:Env)(o:Oper):Bool:=match o.dst with
 |some d=>E.own.contains d
 |none=>false
open Classical in
def aO {R:Type} (g:Prop) (a:Option R):Option R:=if g then a else none
def aC{α R:Type}(x:α)(k:α->Option R):Option R:=k x
theorem aB{α R:Type}(x:α)(k:α->Option R):aC x k=k x:=rfl
def shS{R:Type}(s:S)(K:S->Option R):Option R:=match s with
 | .sc (.int k n)=>aC n fun n=>K (.sc (.int k n))
 | .sc (.bool b)=>aC b fun b=>K (.sc (.bool b))
 | .sc (.float k b)=>aC b fun b=>K (.sc (.float k b))
 | .ints k ns=>aC ns fun ns=>K (.ints k ns)
 |s=>K s
def shCs{R:Type}:List S->(List S->Option R)->Option R
 | [],K=>K []
 |s :: r,K=>shS s fun s=>shCs r fun r=>K (s :: r)
def shD{R:Type}(d:D)(K:D->Option R):Option R:=match d with
 | .s x=>shS x fun x=>K (.s x)
 | .agg cs=>shCs cs fun cs=>K (.agg cs)
 | .own e k ns=>aC ns fun ns=>K (.own e k ns)
 | .io e k ns off n=>aC ns fun ns=>K (.io e k ns off n)
 |d=>K d
def shDs{R:Type}:List D->(List D->Option R)->Option R
 | [],K=>K []
 |d :: r,K=>shD d fun d=>shDs r fun r=>K (d :: r)
theorem aJJ{R:Type}(s:S)(K:S->Option R):shS s K=K s:=by
 unfold shS;split <;> rfl
theorem aCM{R:Type}:∀(cs:List S) (K:List S->Option R),shCs cs K=K cs
 | [],_=>rfl
 |s :: r,K=>by unfold shCs;rw[aJJ,aCM r]
theorem aVR{R:Type}(d:D)(K:D->Option R):shD d K=K d:=by
 unfold shD;split
 ·exact aJJ _ _
 ·exact aCM _ _
 ·rfl
 ·rfl
 ·rfl
theorem Ft{R:Type}:∀(ds:List D) (K:List D->Option R),shDs ds K=K ds
 | [],_=>rfl
 |d :: r,K=>by unfold shDs;rw[aVR,Ft r]
def Py(xs ys:List Nat):Bool:=xs.all fun x=>!(ys.elem x)
def nodup:List Nat->Bool
 | []=>true
 |x :: r=>!(r.elem x)&&nodup r
def toIO(hp:Nat->Option mI):A->Option (Nat×D)
 | .v (.one (.buf id n))=>match hp id with
  |some ⟨e,.ints k ns⟩=>some (id,.io e k ns 0 n)
  |_=>none
 | .v (.one (.view id off n))=>match hp id with
  |some ⟨e,.ints k ns⟩=>some (id,.io e k ns off n)
  |_=>none
 |_=>none
def argsIO(ps:List Nat)(hp:Nat->Option mI):Nat->List A->Option (List (Nat×Nat)×List D)
 |_,[]=>some ([],[])
 |i,a :: r=>bif ps.elem i then(match toIO hp a with
   |some (id,d)=>match argsIO ps hp (i+1) r with
    |some (us,ds)=>some ((i,id) :: us,d :: ds)
    |none=>none
   |none=>none)
  else(match toD hp a with
   |some d=>match argsIO ps hp (i+1) r with
    |some (us,ds)=>some (us,d :: ds)
    |none=>none
   |none=>none)
def rI(ps:List Nat):Nat->List A->List Nat
 |_,[]=>[]
 |i,a :: r=>(bif ps.elem i then []else refs a) ++ rI ps (i+1) r
def leqN:List Nat->List Nat->Bool
 | [],[]=>true
 |a :: r,b :: s=>bXI a b&&leqN r s
 |_,_=>false
def backIO:List (Nat×Nat)->List D->Option tH
 | [],[]=>some []
 | (_,id) :: us,.io e k ns _ _ :: ds=>match backIO us ds with
  |some u=>some ((id,some ⟨e,.ints k ns⟩) :: u)
  |none=>none
 |_,_=>none
def idAt:List (Nat×Nat)->Nat->Nat
 | [],_=>0
 |q :: us,p=>bif bXI q.1 p then q.2 else idAt us p
def reBack(us:List (Nat×Nat)):D->D
 | .back p off n=>.back (idAt us p) off n
 |d=>d
def callIO{R:Type}(E:Env)(ps:List Nat)(id:Nat)(keep:Bool)(f:FuncId)(args:List A)(hp:Nat->Option mI)(K:A->tH->Option R):Option R :=
 match argsIO ps hp 0 args with
 |none=>none
 |some (us,ds)=>bif leqN (us.map (·.1)) ps&&(nodup (us.map (·.2))&&Py (us.map (·.2)) (rI ps 0 args))then
  match E.C f ds with
  |none=>none
  |some (g,rs) =>
   aO g (shDs rs fun rs=>bif bXS us.length rs.length&&bXS rs.length 8&&!((rs.take (rs.length-us.length)).any shares)then
   match backIO us (rs.drop (rs.length-us.length))with
   |none=>none
   |some ub =>
    let r:=takeAll keep id ((rs.take (rs.length-us.length)).map (reBack us))
    match r.1 with
    | [x]=>K (.v x) (ub ++ r.2)
    |xs=>K (.Ph xs) (ub ++ r.2)
   else none)
  else none
def callK{R:Type}(E:Env)(id:Nat)(keep:Bool)(f:FuncId)(args:List A)(hp:Nat->Option mI)(K:A->tH->Option R):Option R :=
 match args.mapM (toD hp)with
 |none=>none
 |some ds=>match E.C f ds with
  |none=>none
  |some (g,rs) =>
   aO g (shDs rs fun rs=>bif bXS rs.length 8 then
   let r:=takeAll keep id rs
   let aOK:=(bif rs.any shares then(args.flatMap refs).map fun i=>(i,none)else []) ++ r.2
   match r.1 with
   | [x]=>K (.v x) aOK
   |xs=>K (.Ph xs) aOK
   else none)
def builtinK{R:Type}(E:Env)(id:Nat)(b:Builtin)(args:List A)(yP:List TypeId)(hp:Nat->Option mI)(K:A->tH->Option R):Option R :=
 match b,args,yP with
 | .len,[x],[t]=>match E.T t,lenA x with
  |some ⟨_,_,_,.slice _⟩,some n=>K (Dh (.int .i64 n)) []
  |some ⟨_,_,_,.arr n _ _⟩,_=>K (Dh (.int .i64 n)) []
  |_,_=>none
 | .max,.v (.one (.s (.sc (.int k n)))) :: r,_=>match foldMM .gtr k n r with
  |some m=>K (Dh (.int k m)) []
  |none=>none
 | .min,.v (.one (.s (.sc (.int k n)))) :: r,_=>match foldMM .lss k n r with
  |some m=>K (Dh (.int k m)) []
  |none=>none
 | .append,[s,x],[t,t']=>if t=t' then
   match E.T t with
   |some ⟨_,_,_,.slice e⟩=>match E.T e with
    |some ⟨1,bytes,_,.int k⟩=>if bytes<=8 then
      match s,intsOf hp k x with
      | .v (.one (.buf i _)),some ms=>match hp i with
       |some ⟨e',.ints k' ns⟩=>bif bXP i E.n0 then none else if e=e'/\k=k' then(if 0<ms.length/\((ns.length+ms.length:Nat):Int)<=room then K (.v (.one (.buf id (ns.length+ms.length)))) [(i,none),(id,some ⟨e,.ints k (ns ++ ms)⟩)]else none)else none
       |_=>none
      | .v (.one (.s (.sc (.slice none 0 0)))),some ms=>if 0<ms.length/\(ms.length:Int)<=room then K (.v (.one (.buf id ms.length))) [(id,some ⟨e,.ints k ms⟩)]else none
      |_,_=>none
     else none
    |_=>none
   |_=>none
  else none
 | .copy,[d,s],[t,_] =>
   match E.T t with
   |some ⟨_,_,_,.slice e⟩=>match E.T e with
    |some ⟨1,_,_,.int k⟩ =>
      match d,intsOf hp k s with
      | .v (.one (.buf i n)),some ms=>match hp i with
       |some ⟨e',.ints k' ns⟩=>if k=k' then K (Dh (.int .i64 (min ms.length n:Nat))) [(i,some ⟨e',.ints k (ms.take n ++ ns.drop (min ms.length n))⟩)]else none
       |_=>none
      | .v (.one (.view i off n)),some ms=>match hp i with
       |some ⟨e',.ints k' ns⟩=>if k=k'/\off+n<=ns.length then K (Dh (.int .i64 (min ms.length n:Nat))) [(i,some ⟨e',.ints k (ns.take off ++ (ms.take n ++ ns.drop (off+min ms.length n)))⟩)]else none
       |_=>none
      |_,_=>none
    |_=>none
   |_=>none
 |_,_,_=>none
def Wk:List Value->Option (List IntKind)
 | []=>some []
 | .int k _ :: r=>(Wk r).map (k :: ·)
 |_=>none
def yY(ti:TI):Option (List IntKind):=match ti.kind with
 | .struct fs=>if(fs.all fun f=>bXI f.2.1 1&&!f.2.2)=true then Wk ti.zero else none
 |_=>none
def eqInts:List IntKind->List S->List S->Option Bool
 | [],[],[]=>some true
 |k :: ks,.sc (.int k1 a) :: r,.sc (.int k2 b) :: r'=>if k1=k/\k2=k then(eqInts ks r r').map fun q=>(a==b)&&q else none
 |_,_,_=>none
def eqAgg(t:Option TI)(cs ds:List S):Option Bool:=match t with
 |some ti=>match yY ti with
  |some ks=>eqInts ks cs ds
  |none=>none
 |none=>none
def aYM:List S->Option IntKind
 | .sc (.int k _) :: _=>some k
 |_=>none
def pickC(len m:Nat)(cs:List S):Option S:=match aYM cs with
 |some k=>match allInts k cs with
  |some ns=>bif bXI ns.length len then some (.sc (.int k (ns.getD m 0)))else cs[m]?
  |none=>cs[m]?
 |none=>cs[m]?
def aWL(len wT n:Nat)(cs:List S):Option S:=bif bXI wT 1 then pickC len n cs else cs[n*wT]?
theorem Yb{k:IntKind}{cs:List S}:∀{ns:List Int},allInts k cs=some ns->∀m,m<ns.length->cs[m]?=some (.sc (.int k (ns.getD m 0))):=by
 induction cs with
 |nil=>intro ns h m hm;cases h;simp at hm
 |cons c r ih =>
  intro ns h m hm;unfold allInts at h;split at h
  ·rename_i heq;cases heq
  ·rename_i k' n r' heq;cases heq;split at h
   ·rename_i hk;subst hk;obtain⟨rs,hr,rfl⟩:=Option.map_eq_some_iff.1 h;cases m with
    |zero=>rfl
    |succ m=>simpa using ih hr m (by simpa using hm)
   ·cases h
  ·cases h
theorem aQV{len wT:Nat}{n:Int}(cs:List S)(h:0<=n/\n<(len:Int)):aWL len wT n.toNat cs=cs[n.toNat*wT]?:=by
 unfold aWL;cases he:bXI wT 1 with
 |false=>rfl
 |true =>
  have:=bXT he;subst this;rw[cond_true,bYB];unfold pickC;split
  ·rename_i k _;split
   ·rename_i ns bAN;cases hl:bXI ns.length len with
    |false=>rfl
    |true =>
     have:=bXT hl;rw[cond_true,Yb bAN n.toNat (by omega)]
   ·rfl
  ·rfl
def effK{R:Type}(E:Env)(id:Nat)(o:Oper)(ev:Operand->A)(hp:Nat->Option mI)(K:A->tH->Option R):Option R :=
 match o.op with
 | .move x=>K (ev x) []
 | .assign x=>K (ev x) []
 | .pick c a b=>match ev c with
  | .v (.one (.s (.sc (.bool t))))=>match ev a,ev b with
   | .v (.one (.s (.sc (.bool p)))),.v (.one (.s (.sc (.bool q))))=>K (Dh (.bool (bif t then p else q))) []
   |x,y=>bif t then K x []else K y []
  |_=>none
 | .alloc e=>match E.T e with
  |some ti=>K (.v (.one (.ptr id 0))) [(id,some ⟨e,.cells (ti.zero.map (wideS E.wide))⟩)]
  |none=>none
 | .box e x=>match E.T e,cellsOf hp (ev x)with
  |some ti,some (cs,u)=>if cs.length=ti.size then K (.v (.one (.ptr id 0))) (u ++ [(id,some ⟨e,.cells cs⟩)])else none
  |_,_=>none
 | .build t parts=>match E.T t with
  |some ⟨_,_,zero,.struct fs⟩=>fillK hp (fun i=>(fs[i]?).map fun f=>(f.1,f.2.1)) ev parts.toList (zero.map .sc) [] fun cs u=>K (.v (.agg cs)) u
  |some ⟨_,_,zero,.arr _ wT _⟩=>fillK hp (fun i=>some (i*wT,wT)) ev parts.toList (zero.map .sc) [] fun cs u=>K (.v (.agg cs)) u
  |_=>none
 | .buildSlice t len parts=>match E.T t with
  |some ⟨_,_,_,.slice e⟩=>match E.T e with
   |some ⟨size,_,zero,kind⟩ =>
    if len*size<=16777216/\0<size then
    fillK hp (fun i=>some (i*size,size)) ev parts.toList ((bYR (len*size)).map fun i=>S.sc (zero.getD (i%size) undef)) [] fun cs u =>
     match kind,size with
     | .int k,1=>match allInts k cs with
      |some ns=>K (.v (.one (.buf id len))) (u ++ [(id,some ⟨e,.ints k ns⟩)])
      |none=>none
     |_,_=>K (.v (.one (.buf id len))) (u ++ [(id,some ⟨e,.cells cs⟩)])
    else none
   |none=>none
  |_=>none
 | .load t x=>match E.T t with
  |some ti=>match ev x with
   | .v (.one (.ptr i off))=>match hp i with
    |some ⟨_,.cells cs⟩=>match partOf ti cs off with
     |some v=>K (.v v) []
     |none=>none
    |_=>none
   | .v (.one (.Sv i j))=>match hp i,ti.kind.isAgg with
    |some ⟨_,.ints k ns⟩,false=>K (Dh (.int k (ns.getD j 0))) []
    |_,_=>none
   | .v (.one (.Px cs))=>match partOf ti cs 0 with
    |some v=>K (.v v) []
    |none=>none
   |_=>none
  |none=>none
 | .store t x y=>match E.T t with
  |some ti=>match ev x with
   | .v (.one (.ptr i off))=>match hp i,cellsOf hp (ev y)with
    |some ⟨e,.cells cs⟩,some (new,u)=>if new.length=ti.size/\off+new.length<=cs.length/\(u.all fun p=>p.1 !=i)=true then K .any (u ++ [(i,some ⟨e,.cells (setAt cs off new)⟩)])else none
    |_,_=>none
   | .v (.one (.Sv i j))=>match hp i,ev y with
    |some ⟨e,.ints k ns⟩,.v (.one (.s (.sc (.int k' n))))=>if k=k'/\ti.size=1 then K .any [(i,some ⟨e,.ints k (ns.set j n)⟩)]else none
    |_,_=>none
   |_=>none
  |none=>none
 | .binOp op t x y _=>match ev x,ev y with
  | .v (.one (.s (.sc a))),.v (.one (.s (.sc b)))=>bif boolT (E.T t) a then binK op a b fun r=>K (Dh r) []else none
  | .v (.agg cs),.v (.agg ds)=>match eqAgg (E.T t) cs ds with
   |some b=>match op with
    | .eql=>K (Dh (.bool b)) []
    | .neq=>K (Dh (.bool (!b))) []
    |_=>none
   |none=>none
  |_,_=>none
 | .unOp op _ x=>match ev x with
  | .v (.one (.s (.sc a)))=>unK op a fun r=>K (Dh r) []
  |_=>none
 | .convert s d x=>match E.T s,E.T d,ev x with
  |some _,some ti,.v (.one (.s (.sc a)))=>convK ti.kind a fun r=>K (Dh r) []
  |_,_,_=>none
 | .makeSlice t l c=>match E.T t,intArg (ev l),intArg (ev c)with
  |some ⟨_,_,_,.slice e⟩,some (_,a),some (_,b)=>match E.T e with
   |some ⟨1,bytes,[.int k0 z0],.int k⟩=>if bytes<=8/\0<bytes/\k0=k/\z0=0 then
     (if 0<=a/\a<=b/\b<=room then K (.v (.one (.buf id a.toNat))) [(id,some ⟨e,.ints k (bZK a.toNat 0)⟩)]else none)else none
   |_=>none
  |_,_,_=>none
 | .slice t x lo hi mx=>match E.T t with
  |some ⟨_,_,_,.slice e⟩=>match E.T e with
   |some ⟨1,_,_,.int k⟩=>match ev x with
    | .v (.one (.s (.ints k' ns)))=>if k=k' then sliceK ns.length (lo.map ev) (hi.map ev) (mx.map ev) fun l h=>K (.v (.one (.s (.ints k ((ns.take h).drop l))))) []else none
    | .v (.one (.s (.sc (.slice none 0 0))))=>sliceK 0 (lo.map ev) (hi.map ev) (mx.map ev) fun _ _=>K (.v (.one (.s (.ints k [])))) []
    | .v (.one (.buf i n))=>sliceK n (lo.map ev) (hi.map ev) (mx.map ev) fun l h=>K (.v (.one (.view i l (h-l)))) []
    | .v (.one (.view i off n))=>sliceK n (lo.map ev) (hi.map ev) (mx.map ev) fun l h=>K (.v (.one (.view i (off+l) (h-l)))) []
    |_=>none
   |some te=>match ev x with
    | .v (.one (.rows sz n f))=>if sz=te.size then sliceK n (lo.map ev) (hi.map ev) (mx.map ev) fun l h=>K (.v (.one (.rows sz (h-l) fun i=>f (l+i)))) []else none
    |_=>none
   |none=>none
  |_=>none
 | .fieldAddr t x f=>match E.T t with
  |some ⟨_,_,_,.struct fs⟩=>match fs[f]?,ev x with
   |some (off,size,_),.v (.one (.ptr i o))=>if 0<size then K (.v (.one (.ptr i (o+off)))) []else none
   |some (off,size,_),.v (.one (.Px cs))=>if 0<size then K (.v (.one (.Px (cs.drop off)))) []else none
   |_,_=>none
  |_=>none
 | .field t x f=>match E.T t with
  |some ⟨_,_,_,.struct fs⟩=>match fs[f]?,ev x with
   |some (off,size,g),.v (.agg cs)=>match (bif g then(if _h:off+size<=cs.length then some (V.agg ((cs.drop off).take size))else none)else(cs[off]?).map fun c=>V.one (.s c))with
    |some v=>K (.v v) []
    |none=>none
   |_,_=>none
  |_=>none
 | .indexAddr t x i=>match E.T t,intArg (ev i)with
  |some ti,some (_,n)=>match ti.kind with
   | .slice e=>match E.T e with
    |some te=>match ev x with
     | .v (.one (.ptr _ _))=>none
     | .v (.one (.Tx _ _))=>none
     |xa=>idxK hp ti te.size xa n fun a=>K a []
    |none=>none
   | .arr _ wT _=>match ev x with
    | .v (.one (.ptr i off))=>idxK hp ti wT (.v (.one (.ptr i off))) n fun a=>K a []
    | .v (.one (.Tx k ns))=>idxK hp ti wT (.v (.one (.Tx k ns))) n fun a=>K a []
    |_=>none
   |_=>none
  |_,_=>none
 | .index t x i=>match E.T t,ev x,intArg (ev i)with
  |some ⟨_,_,_,.arr len wT g⟩,.v (.agg cs),some (_,n)=>if 0<=n/\n<len then
    match (bif g then(if _h:n.toNat*wT+wT<=cs.length then some (V.agg ((cs.drop (n.toNat*wT)).take wT))else none)else(aWL len wT n.toNat cs).map fun c=>V.one (.s c))with
    |some v=>K (.v v) []
    |none=>none
   else none
  |some ⟨_,_,_,.str⟩,.v (.one (.s (.sc (.string s)))),some (_,n)=>if 0<=n/\n<(s.size:Int)then K (Dh (.int .u8 (Iu s n))) []else none
  |_,_,_=>none
 | .extract x i=>match ev x with
  | .Ph xs=>match xs[i]? with
   |some v=>K (.v v) []
   |none=>none
  |_=>none
 | .call ⟨.value fo,args,_⟩=>match funOf (ev fo)with
  |some f=>match (argVals (args.toList.map ev)).bind (E.ext f)with
   |some (g,vs)=>aO g (K (bBV vs) [])
   |none=>match E.ioF f with
    | []=>callK E id (keepOf E o) f (args.toList.map ev) hp K
    |p :: ps=>callIO E (p :: ps) id (keepOf E o) f (args.toList.map ev) hp K
  |none=>none
 | .call ⟨.builtin b,args,yP⟩=>builtinK E id b (args.toList.map ev) yP.toList hp K
 |_=>none
def applyUps:tH->(Nat->Option mI)->Nat->Option mI
 | [],hp=>hp
 | (i,b) :: r,hp=>applyUps r (Ck hp i b)
def Ei(o:Oper)(a:A)(fr:Nat->A):Nat->A :=
 match o.dst with
 |some d=>Ck fr d a
 |none=>fr
def after(o:Oper)(st:St)(a:A)(u:tH):St:=⟨Ei o a st.fr,applyUps u st.hp,st.n⟩
def sV(E:Env)(id:Nat)(o:Oper)(ev:Operand->A)(hp:Nat->Option mI):Option (A×tH):=effK E id o ev hp fun a u=>some (a,u)
structure Rec where
 i:Nat
 o:Oper
 aIK:List Nat
 aOK:List Nat
def uK(o:Oper)(ev:Operand->A)(u:tH):List Nat:=(o.op.operands.toList.flatMap fun x=>refs (ev x)) ++ u.map (·.1)
def befB(ops:Array Oper)(j:Nat):Nat->Oper->Bool
 |0,_=>false
 |n+1,o=>o.after.any fun e=>Region.binds .any e&&(e.on==j||(match ops[e.on]? with |some o'=>befB ops j n o' |none=>false))
def indep(ops:Array Oper)(r:Rec)(_i:Nat)(o:Oper)(aIK aOK:List Nat):Bool :=
 (o.after.any fun e=>Region.binds .any e&&e.on==r.i)||(r.o.apart ops o&&Py r.aOK aIK&&Py aOK r.aIK)||befB ops r.i 3 o
def kG(nt:Nat)(o:Oper):Bool:=match o.dst with
 |some d=>bXP d nt
 |none=>true
def zK(i:Nat)(o:Oper):Bool:=o.after.all fun e=>!Region.binds .any e||bXP e.on i
def opsK{R:Type}(E:Env)(draw:Bool)(ops:Array Oper)(base:Nat):List Oper->Nat->List Rec->St->(St->Option R)->Option R
 | [],_,_,st,K=>K st
 |o :: rest,i,qD,st,K =>
  bif kG E.nt o&&(!draw||zK i o)then
  match o.guard with
  |none=>effK E (base+8*i) o (evA E st.fr) st.hp fun a u =>
    let t:=uK o (evA E st.fr) u
    bif !draw||qD.all fun r=>indep ops r i o t (u.map (·.1))then opsK E draw ops base rest (i+1) (⟨i,o,t,u.map (·.1)⟩ :: qD) (after o st a u) K else none
  |some (j,want)=>match (ops[j]?).bind (·.dst)with
   |some d=>match st.fr d with
    | .v (.one (.s (.sc (.bool b)))) =>
     let go (lit:Bool):Option R :=
      let gH:St:=⟨Ck st.fr d (Dh (.bool lit)),st.hp,st.n⟩
      bif lit==want then
       effK E (base+8*i) o (evA E gH.fr) gH.hp fun a u =>
        let t:=uK o (evA E gH.fr) u
        bif !draw||qD.all fun r=>indep ops r i o t (u.map (·.1))then opsK E draw ops base rest (i+1) (⟨i,o,t,u.map (·.1)⟩ :: qD) (after o gH a u) K else none
      else bif !draw||qD.all fun r=>indep ops r i o [] []then opsK E draw ops base rest (i+1) (⟨i,o,[],[]⟩ :: qD) (after o gH (.Ph []) []) K else none
     aD b (go true) (go false)
    | .Ph []=>bif !draw||qD.all fun r=>indep ops r i o [] []then opsK E draw ops base rest (i+1) (⟨i,o,[],[]⟩ :: qD) (after o st (.Ph []) []) K else none
    |_=>none
   |none=>none
  else none
inductive Ex where
 |normal
 |exit (id:Nat)
 |ret
abbrev KV:=A×Option mI
def canonGo(n0:Nat)(st:St):List Nat->Nat->List Nat->List KV
 | [],_,_=>[]
 |s :: r,p,seen =>
  match st.fr s with
  | .v (.one (.buf i n))=>bif seen.elem i then(.any,none) :: canonGo n0 st r (p+1) seen else(.v (.one (.buf p n)),st.hp i) :: canonGo n0 st r (p+1) (i :: seen)
  | .v (.one (.ptr i 0))=>bif seen.elem i then(.any,none) :: canonGo n0 st r (p+1) seen else(.v (.one (.ptr p 0)),st.hp i) :: canonGo n0 st r (p+1) (i :: seen)
  | .v (.one (.ptr _ _))=>(.any,none) :: canonGo n0 st r (p+1) seen
  | .v (.one (.Sv _ _))=>(.any,none) :: canonGo n0 st r (p+1) seen
  | .v (.one (.view i off n))=>bif bXP i n0 then(.v (.one (.view i off n)),none) :: canonGo n0 st r (p+1) seen else(.any,none) :: canonGo n0 st r (p+1) seen
  | .Ph _=>(.any,none) :: canonGo n0 st r (p+1) seen
  |a=>(a,none) :: canonGo n0 st r (p+1) seen
def canonIO(st:St):Nat->Nat->List KV
 |0,_=>[]
 |n+1,i=>(.any,st.hp i) :: canonIO st n (i+1)
def below:Nat->List Nat
 |0=>[]
 |n+1=>n :: below n
def canon(n0:Nat)(keep:List Nat)(st:St):List KV:=canonIO st n0 0 ++ canonGo n0 st keep n0 (below n0)
def slotGo(t:Nat):List Nat->List KV->A
 |s :: r,kv :: l=>bif bXI t s then kv.1 else slotGo t r l
 |_,_=>.any
def blkGo:Nat->List KV->Option mI
 |_,[]=>none
 |0,kv :: _=>kv.2
 |n+1,_ :: l=>blkGo n l
def mk(n0:Nat)(keep:List Nat)(l:List KV):St:=⟨fun t=>slotGo t keep (l.drop n0),fun i=>blkGo i l,n0+keep.length⟩
def keyOf:Code->Nat
 | .region id _ _=>id
 | .seq a _=>keyOf a
 | .block _ c=>keyOf c
 | .loop c=>keyOf c
 | .scope c=>keyOf c
 |_=>0
section
variable {α R:Type}
def iter(G:(α->Option R)->α->Option R):Nat->α->Option R
 |0=>fun _=>none
 |n+1=>G (iter G n)
open Classical in
def fix (G:(α->Option R)->α->Option R) (a:α):Option R :=
 if h:∃r,∃n,iter G n a=some r then some (Classical.choose h)else none
end
abbrev roundOf{R:Type}(ec:Code->St->(Ex->St->Option R)->Option R)(n0:Nat)(keep:List Nat)(c:Code)(K:Ex->St->Option R)(rec:List KV->Option R)(l:List KV):Option R :=
 ec c (mk n0 keep l) fun ex gH=>match ex with
  | .normal=>rec (canon n0 keep gH)
  | .exit i=>K (.exit i) gH
  | .ret=>K .ret gH
def Cz{R:Type}(_key:Nat)(l:List KV)(k:List KV->Option R):Option R:=k l
def evalCode{R:Type}(E:Env):Code->St->(Ex->St->Option R)->Option R
 | .skip,st,K=>K .normal st
 | .label _,st,K=>K .normal st
 | .region _ ops draw,st,K=>opsK E draw ops st.n ops.toList 0 [] st fun gH=>K .normal ⟨gH.fr,gH.hp,st.n+8*ops.size⟩
 | .seq a b,st,K=>evalCode E a st fun ex gH=>match ex with
  | .normal=>match E.cut (keyOf b)with
   |some keep=>Cz (keyOf b) (canon E.n0 keep gH) fun l=>evalCode E b (mk E.n0 keep l) K
   |none=>evalCode E b gH K
  | .exit i=>K (.exit i) gH
  | .ret=>K .ret gH
 | .cond c a b,st,K=>match c with
  | .tmp s=>match st.fr s with
   | .v (.one (.s (.sc (.bool t))))=>aD t (evalCode E a ⟨Ck st.fr s (Dh (.bool true)),st.hp,st.n⟩ K) (evalCode E b ⟨Ck st.fr s (Dh (.bool false)),st.hp,st.n⟩ K)
   |_=>none
  | .const (.bool t)=>aD t (evalCode E a st K) (evalCode E b st K)
  |_=>none
 | .block id c,st,K=>evalCode E c st fun ex gH=>match ex with
  | .normal=>K .normal gH
  | .exit i=>bif bXI i id then K .normal gH else K (.exit i) gH
  | .ret=>K .ret gH
 | .exit id,st,K=>K (.exit id) st
 | .ret,st,K=>K .ret st
 | .loop c,st,K=>match E.roll (keyOf c)with
  |some n=>iter (fun rec l=>evalCode E c (mk E.n0 (E.keep (keyOf c)) l) fun ex gH=>match ex with
    | .normal=>rec (canon E.n0 (E.keep (keyOf c)) gH)
    | .exit i=>K (.exit i) gH
    | .ret=>K .ret gH) n (canon E.n0 (E.keep (keyOf c)) st)
  |none=>fix (fun rec l=>evalCode E c (mk E.n0 (E.keep (keyOf c)) l) fun ex gH=>match ex with
    | .normal=>rec (canon E.n0 (E.keep (keyOf c)) gH)
    | .exit i=>K (.exit i) gH
    | .ret=>K .ret gH) (canon E.n0 (E.keep (keyOf c)) st)
 | .scope c,st,K=>evalCode E c st K
 |_,_,_=>none
def resD(E:Env)(st:St):ResultVar->Option D
 | .tmp t=>match st.fr t with
  | .v (.agg cs)=>some (.agg cs)
  | .v (.one (.s x))=>some (.s x)
  | .v (.one (.buf i _))=>bif bXP i E.n0 then none else match st.hp i with
   |some ⟨e,.ints k ns⟩=>some (.own e k ns)
   |_=>none
  | .v (.one (.view i off n))=>bif E.io.elem i then some (.back i off n)else bif bXP i E.n0 then none else match st.hp i,off with
   |some ⟨e,.ints k ns⟩,0=>some (.own e k (ns.take n))
   |_,_=>none
  |_=>none
 | .cell t ty=>match st.fr t,E.T ty with
  | .v (.one (.ptr i off)),some ti=>match st.hp i with
   |some ⟨_,.cells cs⟩=>match partOf ti cs off with
    |some (.agg aUW)=>some (.agg aUW)
    |some (.one (.s x))=>some (.s x)
    |_=>none
   |_=>none
  |_,_=>none
def ownIds(st:St):List ResultVar->List Nat
 | []=>[]
 | .tmp t :: r=>(match st.fr t with | .v (.one (.buf i _))=>[i] | .v (.one (.view i _ _))=>[i] |_=>[]) ++ ownIds st r
 | .cell _ _ :: r=>ownIds st r
def bCM(st:St)(i:Nat):Option D:=match st.hp i with
 |some ⟨e,.ints k ns⟩=>some (.io e k ns 0 0)
 |_=>none
def sP(E:Env)(fn:Func)(ex:Ex)(st:St):Option (List D) :=
 match ex with
 | .exit _=>none
 |_=>bif nodup (ownIds st fn.results.toList)then(match E.io with
  | []=>fn.results.toList.mapM (resD E st)
  |p :: ps=>match fn.results.toList.mapM (resD E st),(p :: ps).mapM (bCM st)with
   |some rs,some is=>some (rs ++ is)
   |_,_=>none)else none
def bLR:D->A
 | .s x=>.v (.one (.s x))
 | .rows sz n f=>.v (.one (.rows sz n f))
 | .agg cs=>.v (.agg cs)
 | .own _ k ns=>.v (.one (.s (.ints k ns)))
 | .io _ _ _ _ _=>.any
 | .back _ _ _=>.any
def argAt(i:Nat):D->A
 | .io _ _ _ off n=>.v (.one (.view i off n))
 |d=>bLR d
def argFrI:Nat->List D->Nat->A
 |_,[],_=>.any
 |i,d :: _,0=>argAt i d
 |i,_ :: r,n+1=>argFrI (i+1) r n
abbrev Xy:List D->Nat->A:=argFrI 0
def argHp:Nat->List D->Nat->Option mI
 |_,[],_=>none
 |i,.io e k ns _ _ :: r,j=>bif bXI j i then some ⟨e,.ints k ns⟩else argHp (i+1) r j
 |i,_ :: r,j=>argHp (i+1) r j
def aG(E:Env)(fn:Func)(c:Code)(ds:List D):Option (List D) :=
 evalCode E c ⟨Xy ds,argHp 0 ds,E.n0⟩ (sP E fn)
def Za{R:Type}(E:Env)(b:Code)(K:Ex->St->Option R)(ex:Ex)(gH:St):Option R:=match ex with
 | .normal=>match E.cut (keyOf b)with
  |some keep=>Cz (keyOf b) (canon E.n0 keep gH) fun l=>evalCode E b (mk E.n0 keep l) K
  |none=>evalCode E b gH K
 | .exit i=>K (.exit i) gH
 | .ret=>K .ret gH
def Nw{R:Type}(id:Nat)(K:Ex->St->Option R)(ex:Ex)(gH:St):Option R:=match ex with
 | .normal=>K .normal gH
 | .exit i=>bif bXI i id then K .normal gH else K (.exit i) gH
 | .ret=>K .ret gH
def Qr{R:Type}(E:Env)(c:Code)(K:Ex->St->Option R)(ex:Ex)(gH:St):Option R:=match ex with
 | .normal=>fix (fun rec l=>evalCode E c (mk E.n0 (E.keep (keyOf c)) l) fun ex gH=>match ex with
  | .normal=>rec (canon E.n0 (E.keep (keyOf c)) gH)
  | .exit i=>K (.exit i) gH
  | .ret=>K .ret gH) (canon E.n0 (E.keep (keyOf c)) gH)
 | .exit i=>K (.exit i) gH
 | .ret=>K .ret gH
def findLoop{R:Type}(E:Env)(key:Nat):Code->(Ex->St->Option R)->Option (Code×(Ex->St->Option R))
 | .seq a b,K=>(findLoop E key a (Za E b K)).or (findLoop E key b K)
 | .cond _ a b,K=>(findLoop E key a K).or (findLoop E key b K)
 | .block id c,K=>findLoop E key c (Nw id K)
 | .loop c,K=>bif bXI (keyOf c) key then some (c,K)else findLoop E key c (Qr E c K)
 | .scope c,K=>findLoop E key c K
 |_,_=>none
def fK{R:Type}(E:Env)(key:Nat):Code->(Ex->St->Option R)->Option (Code×(Ex->St->Option R))
 | .seq a b,K=>bif bXI (keyOf b) key then some (b,K)else(fK E key a (Za E b K)).or (fK E key b K)
 | .cond _ a b,K=>(fK E key a K).or (fK E key b K)
 | .block id c,K=>fK E key c (Nw id K)
 | .loop c,K=>fK E key c (Qr E c K)
 | .scope c,K=>fK E key c K
 |_,_=>none
end AI
namespace AI
open Go Go.RowKit
def rH(X:Nat->Prop)(w:World):S->Value->Prop
 | .sc u,v=>v=u/\u.oneCell'=true
 | .ints k ns,v=>∃A c,v=.slice A ns.length c/\ns.length<=c/\∀(i:Nat) (n:Int),ns[i]?=some n->∃b off,A=some ⟨b,off,none⟩/\b<w.heap.size/\¬X b/\w.cell? ⟨b,off+i,none⟩=some (.int k n)
 | .bot,v=>v.oneCell'=true
def mB(X:Nat->Prop)(w:World)(cs:List S)(vs:List Value):Prop :=
 cs.length=vs.length/\∀(i:Nat) (s:S) (u:Value),cs[i]?=some s->vs[i]?=some u->rH X w s u
def vB(X:Nat->Prop)(w:World)(b off:Nat)(cs:List S):Prop :=
 ∀(i:Nat) (s:S),cs[i]?=some s->b<w.heap.size/\¬X b/\∃u,w.cell? ⟨b,off+i,none⟩=some u/\rH X w s u
def nG(w:World)(g:Nat):Nat:=match w.heap[g]? with
 |some (.cells arr _ _)=>arr.size
 |_=>0
def xW(k:IntKind)(ns:List Int):List S:=ns.map fun n=>.sc (.int k n)
def aGY(ρ:Nat->Nat)(hp:Nat->Option mI)(X:Nat->Prop)(w:World):L->Value->Prop
 | .s x,v=>rH X w x v
 | .rows sz n f,v=>∃A c,v=.slice A n c/\n<=c/\∀i,i<n->(f i).length=sz/\∃b off,A=some ⟨b,off,none⟩/\vB X w b (off+i*sz) (f i)
 | .Px cs,v=>∃b off,v=.pointer (some ⟨b,off,none⟩)/\vB X w b off cs
 | .Tx k ns,v=>∃b off,v=.pointer (some ⟨b,off,none⟩)/\vB X w b off (xW k ns)
 | .ptr id off,v=>v=.pointer (some ⟨ρ id,off,none⟩)
 | .Sv id i,v=>v=.pointer (some ⟨ρ id,i,none⟩)/\∀blk k ns,hp id=some blk->blk.cont=.ints k ns->i<ns.length
 | .buf id n,v=>∃cap,v=.slice (some ⟨ρ id,0,none⟩) n cap/\n<=cap/\∀blk k ns,hp id=some blk->blk.cont=.ints k ns->n=ns.length/\cap<=maxLen/\cap<=nG w (ρ id)
 | .view id off n,v=>∃o' cap,v=.slice (some ⟨ρ id,o',none⟩) n cap/\n<=cap/\(0<n->o'=off)/\(off=0->o'=0)/\∀blk k ns,hp id=some blk->blk.cont=.ints k ns->off+n<=ns.length/\cap<=maxLen/\cap<=nG w (ρ id)
theorem xK{ρ:Nat->Nat}{hp:Nat->Option mI}{w:World}{id off n:Nat}{v:Value}(h:aGY ρ hp (fun _=>False) w (.view id off n) v) :
  ∃A cap,v=.slice A n cap/\n<=cap/\(0<n->A=some ⟨ρ id,off,none⟩)/\∀blk k ns,hp id=some blk->blk.cont=.ints k ns->off+n<=ns.length:=by
 obtain⟨o',cap,hv,hle,h1,_,h2⟩:=h;exact⟨_,cap,hv,hle,fun hn=>by rw[h1 hn],fun blk k ns h3 h4=>(h2 blk k ns h3 h4).1⟩
def Gs(ρ:Nat->Nat)(hp:Nat->Option mI)(X:Nat->Prop)(w:World):V->Value->Prop
 | .one l,v=>aGY ρ hp X w l v
 | .agg cs,v=>∃arr,v=.agg arr/\mB X w cs arr.toList
def zY(ρ:Nat->Nat)(hp:Nat->Option mI)(X:Nat->Prop)(w:World):A->Value->Prop
 | .v x,v=>Gs ρ hp X w x v
 | .Ph xs,v=>∃arr,v=.tuple arr/\xs.length=arr.size/\∀(i:Nat) (x:V) (u:Value),xs[i]?=some x->arr[i]?=some u->Gs ρ hp X w x u
 | .any,_=>True
def Qe(X:Nat->Prop)(w:World):oI->Array Value->Prop
 | .ints k ns,arr=>ns.length<=arr.size/\∀(i:Nat) (n:Int),ns[i]?=some n->arr[i]?=some (Value.int k n)
 | .cells cs,arr=>cs.length=arr.size/\∀(i:Nat) (s:S),cs[i]?=some s->∃u,arr[i]?=some u/\rH X w s u
def Gt(X:Nat->Prop)(w:World)(g:Nat)(b:mI):Prop:=∃arr,w.heap[g]?=some (.cells arr b.e (0,0))/\Qe X w b.cont arr
def aPE(ρ:Nat->Nat)(hp:Nat->Option mI)(b:Nat):Prop:=∃id blk,hp id=some blk/\ρ id=b
def XO(X:Nat->Prop)(ρ:Nat->Nat)(hp:Nat->Option mI)(b:Nat):Prop:=X b\/aPE ρ hp b
def GlobOk(glob:Nat->Option (IntKind×List Int))(X:Nat->Prop)(w:World):Prop :=
 ∀g k ns,glob g=some (k,ns)->g<w.heap.size/\¬X g/\vB X w g 0 (xW k ns)
structure Old where
 w:World
 M:Nat->Prop
 g:Nat->Nat
 bCA:∀b,M b->b<w.heap.size
def Old.Jq(o:Old)(b:Nat):Prop:=o.w.heap.size<=b\/o.M b
def Old.El(o:Old)(n0 id b:Nat):Prop:=o.w.heap.size<=b\/(id<n0/\o.M b)
theorem Old.El.Jq{o:Old}{n0 id b:Nat}(h:o.El n0 id b):o.Jq b:=h.imp (fun h=>h) And.right
theorem Old.El.new{o:Old}{n0 id b:Nat}(h:o.El n0 id b)(hn:n0<=id):o.w.heap.size<=b:=h.elim (fun h=>h) fun h=>absurd h.1 (by omega)
def Old.bare(w:World):Old:=⟨w,fun _=>False,id,fun _ h=>h.elim⟩
structure Kept(o:Old)(w w':World):Prop where
 os:w'.os=w.os
 tape:w'.tape=w.tape
 output:w'.output=w.output
 size:w.heap.size<=w'.heap.size
 block:∀b,¬o.Jq b->w'.heap[b]?=w.heap[b]?
 room:∀b,o.M b->nG w' b=nG w b
theorem yG{w w':World}{b:Nat}(h:w'.heap[b]?=w.heap[b]?):nG w' b=nG w b:=by unfold nG;rw[h]
theorem Kept.refl(o:Old)(w:World):Kept o w w:=⟨rfl,rfl,rfl,bXK _,fun _ _=>rfl,fun _ _=>rfl⟩
theorem Kept.trans{o:Old}{a b c:World}(h:Kept o a b)(k:Kept o b c):Kept o a c :=
 ⟨k.os.trans h.os,k.tape.trans h.tape,k.output.trans h.output,bYC h.size k.size,fun i hi=>(k.block i hi).trans (h.block i hi),fun i hi=>(k.room i hi).trans (h.room i hi)⟩
theorem Old.Vz{o:Old}{b:Nat}(h:¬o.Jq b):b<o.w.heap.size:=by
 rcases bXZ b o.w.heap.size with h1 |h1
 ·exact h1
 ·exact(h (.inl h1)).elim
theorem Kept.below{w w' bBO:World}(h:Kept (Old.bare w) w' bBO):Below w.heap.size w' bBO :=
 ⟨h.os,h.tape,h.output,h.size,fun k hk=>h.block k (fun hm=>by
  rcases hm with hm |hm
  ·exact absurd (show w.heap.size<=k from hm) (by omega)
  ·exact hm)⟩
structure jT(E:Env)(X:Nat->Prop)(w0:Old)(ρ:Nat->Nat)(al:Nat->Prop)(f:Nat->A)(hp:Nat->Option mI)(a:Act)(w:World):Prop where
 fr:∀t,zY ρ hp (XO X ρ hp) w (f t) (a.tmps.getD t undef)
 sz:a.tmps.size=E.nt
 nod:a.defers=[]
 blk:∀id b,hp id=some b->w0.El E.n0 id (ρ id)/\Gt (XO X ρ hp) w (ρ id) b
 inj:∀id Yk b b',hp id=some b->hp Yk=some b'->ρ id=ρ Yk->id=Yk
 alh:∀id b,hp id=some b->al id
 alr:∀t id,id∈refs (f t)->al id
 below:Kept w0 w0.w w
 x0:∀b,X b->¬w0.Jq b
 glob:GlobOk E.glob X w0.w
 mg:∀g p,E.glob g=some p->¬w0.M g
 al0:∀id,id<E.n0->al id
 rB:∀id,id<E.n0->ρ id=w0.g id
structure jB(X:Nat->Prop)(w:World)(X':Nat->Prop)(w':World):Prop where
 size:w.heap.size<=w'.heap.size
 keep:∀b,b<w.heap.size->¬X b->w'.heap[b]?=w.heap[b]?/\¬X' b
theorem jB.refl(X:Nat->Prop)(w:World):jB X w X w:=⟨bXK _,fun _ _ h=>⟨rfl,h⟩⟩
theorem jB.trans{X X' bPM:Nat->Prop}{w w' bBO:World}(h:jB X w X' w')(h':jB X' w' bPM bBO):jB X w bPM bBO :=
 ⟨bYC h.size h'.size,fun b hb hx=>by
  obtain⟨e,Ai⟩:=h.keep b hb hx;obtain⟨e',bIJ⟩:=h'.keep b (bYH hb h.size) Ai;exact⟨e'.trans e,bIJ⟩⟩
section
variable {X X':Nat->Prop} {w w':World}
theorem jB.cell(h:jB X w X' w'){b off:Nat}(hb:b<w.heap.size)(hx:¬X b):w'.cell? ⟨b,off,none⟩=w.cell? ⟨b,off,none⟩ :=
 World.cell?_of_block (a:=⟨b,off,none⟩) (h.keep b hb hx).1
theorem rH.later(h:jB X w X' w'){s:S}{v:Value}(r:rH X w s v):rH X' w' s v:=by
 cases s with
 |sc u=>exact r
 |bot=>exact r
 |ints k ns =>
  obtain⟨A,c,hv,hle,hc⟩:=r;refine⟨A,c,hv,hle,fun i n hn=>?_⟩;obtain⟨b,off,hA,hb,hx,Wy⟩:=hc i n hn;exact⟨b,off,hA,bYH hb h.size,(h.keep b hb hx).2,(h.cell hb hx).trans Wy⟩
theorem rH.one{s:S}{v:Value}(r:rH X w s v):v.oneCell'=true:=by
 cases s with
 |sc u=>obtain⟨rfl,h⟩:=r;exact h
 |bot=>exact r
 |ints k ns=>obtain⟨A,c,rfl,_⟩:=r;rfl
theorem mB.later(h:jB X w X' w'){cs:List S}{vs:List Value}(r:mB X w cs vs):mB X' w' cs vs :=
 ⟨r.1,fun i s u hs hu=>(r.2 i s u hs hu).later h⟩
theorem vB.later(h:jB X w X' w'){b off:Nat}{cs:List S}(r:vB X w b off cs):vB X' w' b off cs:=by
 intro i s hs;obtain⟨hb,hx,u,hu,hr⟩:=r i s hs;exact⟨bYH hb h.size,(h.keep b hb hx).2,u,(h.cell hb hx).trans hu,hr.later h⟩
theorem Qe.later(h:jB X w X' w'){c:oI}{arr:Array Value}(r:Qe X w c arr):Qe X' w' c arr:=by
 cases c with
 |ints k ns=>exact r
 |cells cs=>exact⟨r.1,fun i s hs=>let ⟨u,hu,hr⟩:=r.2 i s hs;⟨u,hu,hr.later h⟩⟩
end
def sameShape(b b':mI):Prop:=∀k ns,b'.cont=.ints k ns->∃k' oN,b.cont=.ints k' oN/\oN.length=ns.length
section
variable {ρ ρ':Nat->Nat} {hp hp':Nat->Option mI} {X X':Nat->Prop} {w w':World} {al:Nat->Prop}
def wX(ρ ρ':Nat->Nat)(hp hp':Nat->Option mI)(w w':World)(al:Nat->Prop):Prop :=
 ∀id,al id->ρ' id=ρ id/\∀b',hp' id=some b'->∃b,hp id=some b/\sameShape b b'/\nG w' (ρ id)=nG w (ρ id)
theorem wX.refl(ρ:Nat->Nat)(hp:Nat->Option mI)(w:World)(al:Nat->Prop):wX ρ ρ hp hp w w al :=
 fun _ _=>⟨rfl,fun b h=>⟨b,h,fun k ns e=>⟨k,ns,e,rfl⟩,rfl⟩⟩
theorem aGY.later(h:jB X w X' w')(hh:wX ρ ρ' hp hp' w w' al){l:L}{v:Value}(tE:∀id∈refsL l,al id)(r:aGY ρ hp X w l v):aGY ρ' hp' X' w' l v:=by
 cases l with
 |s x=>exact rH.later h r
 |rows sz n f =>
  obtain⟨A,c,hv,hle,hc⟩:=r;refine⟨A,c,hv,hle,fun i hi=>?_⟩;obtain⟨hl,b,off,hA,Nd⟩:=hc i hi;exact⟨hl,b,off,hA,Nd.later h⟩
 |Px cs=>obtain⟨b,off,hv,hc⟩:=r;exact⟨b,off,hv,hc.later h⟩
 |Tx k ns=>obtain⟨b,off,hv,hc⟩:=r;exact⟨b,off,hv,hc.later h⟩
 |ptr id off =>
  have hr:v=.pointer (some ⟨ρ id,off,none⟩):=r;show v=.pointer (some ⟨ρ' id,off,none⟩);rw[(hh id (tE id (by simp[refsL]))).1];exact hr
 |Sv id i =>
  obtain⟨hv,hc⟩:=r;obtain⟨e,hb⟩:=hh id (tE id (by simp[refsL]));refine⟨by rw[e];exact hv,fun b' k ns h1 h2=>?_⟩;obtain⟨b,h3,h4,_⟩:=hb b' h1;obtain⟨k',oN,h5,h6⟩:=h4 k ns h2;have:=hc b k' oN h3 h5;omega
 |buf id n =>
  obtain⟨cap,hv,hle,hc⟩:=r;obtain⟨e,hb⟩:=hh id (tE id (by simp[refsL]));refine⟨cap,by rw[e];exact hv,hle,fun b' k ns h1 h2=>?_⟩;obtain⟨b,h3,h4,h7⟩:=hb b' h1;obtain⟨k',oN,h5,h6⟩:=h4 k ns h2;have:=hc b k' oN h3 h5;rw[e,h7];exact⟨by omega,this.2⟩
 |view id off n =>
  obtain⟨o',cap,hv,hle,Mx,Hw,hc⟩:=r;obtain⟨e,hb⟩:=hh id (tE id (by simp[refsL]));refine⟨o',cap,by rw[e];exact hv,hle,Mx,Hw,fun b' k ns h1 h2=>?_⟩;obtain⟨b,h3,h4,h7⟩:=hb b' h1;obtain⟨k',oN,h5,h6⟩:=h4 k ns h2;have:=hc b k' oN h3 h5;rw[e,h7];exact⟨by omega,this.2⟩
theorem Gs.later(h:jB X w X' w')(hh:wX ρ ρ' hp hp' w w' al){x:V}{v:Value}(tE:∀id∈refsV x,al id)(r:Gs ρ hp X w x v):Gs ρ' hp' X' w' x v:=by
 cases x with
 |one l=>exact aGY.later h hh tE r
 |agg cs=>obtain⟨arr,hv,hr⟩:=r;exact⟨arr,hv,hr.later h⟩
theorem zY.later(h:jB X w X' w')(hh:wX ρ ρ' hp hp' w w' al){x:A}{v:Value}(tE:∀id∈refs x,al id)(r:zY ρ hp X w x v):zY ρ' hp' X' w' x v:=by
 cases x with
 |v x=>exact Gs.later h hh tE r
 |any=>trivial
 |Ph xs =>
  obtain⟨arr,hv,hl,hr⟩:=r;refine⟨arr,hv,hl,fun i x u hx hu=>Gs.later h hh (fun id An=>tE id ?_) (hr i x u hx hu)⟩;exact List.mem_flatMap.2 ⟨x,bXQ hx,An⟩
end
theorem jT.next{E:Env}{X:Nat->Prop}{w0:Old}{ρ ρ':Nat->Nat}{al al':Nat->Prop}{fr:Nat->A}{hp hp':Nat->Option mI}{a:Act}{w w':World}{o:Oper}{x:A}{v:Value}
  (h:jT E X w0 ρ al fr hp a w) (hd:kG E.nt o=true)
  (hl:jB (XO X ρ hp) w (XO X ρ' hp') w') (hb:Kept w0 w w')
  (hh:wX ρ ρ' hp hp' w w' al)
  (Js:∀id b,hp' id=some b->w0.El E.n0 id (ρ' id)/\Gt (XO X ρ' hp') w' (ρ' id) b)
  (Bl:∀id Yk b b',hp' id=some b->hp' Yk=some b'->ρ' id=ρ' Yk->id=Yk)
  (tE:∀id,al id->al' id) (aXY:∀id b,hp' id=some b->al' id)
  (hx:zY ρ' hp' (XO X ρ' hp') w' x v) (bCP:∀id∈refs x,al' id) :
  jT E X w0 ρ' al' (Ei o x fr) hp' (a.put o.dst v) w':=by
 have key:∀t,zY ρ' hp' (XO X ρ' hp') w' (Ei o x fr t) ((a.put o.dst v).tmps.getD t undef)/\∀id∈refs (Ei o x fr t),al' id:=by
  intro t;unfold Ei Act.put;cases aGB:o.dst with
  |none=>exact⟨zY.later hl hh (h.alr t) (h.fr t),fun id An=>tE id (h.alr t id An)⟩
  |some d =>
   have jM:d<a.tmps.size:=by rw[h.sz];unfold kG at hd;rw[aGB]at hd;simpa using hd
   simp only[Ck];cases bOR:bXI t d with
   |true =>
    obtain rfl:t=d:=bXT bOR;simp only[cond_true];refine⟨?_,bCP⟩;have e:(a.tmps.setIfInBounds t v).getD t undef=v:=by simp[Array.getD,jM]
    rw[e];exact hx
   |false =>
    have Dq:t≠d:=bZL bOR;simp only[cond_false];have e:(a.tmps.setIfInBounds d v).getD t undef=a.tmps.getD t undef:=by
     simp only[Array.getD_eq_getD_getElem?,Array.getElem?_setIfInBounds];rw[if_neg (fun h=>Dq h.symm)]
    rw[e];exact⟨zY.later hl hh (h.alr t) (h.fr t),fun id An=>tE id (h.alr t id An)⟩
 exact { fr:=fun t=>(key t).1,sz:=by unfold Act.put;cases o.dst <;> simp[h.sz],nod:=by unfold Act.put;cases o.dst <;> exact h.nod,blk:=Js,inj:=Bl,alh:=aXY,alr:=fun t=>(key t).2,below:=h.below.trans hb,x0:=h.x0,glob:=h.glob,mg:=h.mg,al0:=fun id hi=>tE id (h.al0 id hi),rB:=fun id hi=>(hh id (h.al0 id hi)).1.trans (h.rB id hi) }
theorem jT.pure{E:Env}{X:Nat->Prop}{w0:Old}{ρ:Nat->Nat}{al:Nat->Prop}{fr:Nat->A}{hp:Nat->Option mI}{a:Act}{w:World}{o:Oper}{x:A}{v:Value}
  (h:jT E X w0 ρ al fr hp a w) (hd:kG E.nt o=true) (hx:zY ρ hp (XO X ρ hp) w x v) (bCP:∀id∈refs x,al id) :
  jT E X w0 ρ al (Ei o x fr) hp (a.put o.dst v) w :=
 h.next hd (jB.refl _ _) (Kept.refl _ _) (wX.refl _ _ _ _) h.blk h.inj (fun _ h=>h) h.alh hx bCP
theorem jT.Th{E:Env}{X:Nat->Prop}{w0:Old}{ρ:Nat->Nat}{al:Nat->Prop}{fr:Nat->A}{hp:Nat->Option mI}{a:Act}{w:World}
  (h:jT E X w0 ρ al fr hp a w):GlobOk E.glob (XO X ρ hp) w:=by
 intro g k ns hg;obtain⟨h1,h2,h3⟩:=h.glob g k ns hg;have hm:¬w0.Jq g:=by
  rintro (hm |hm)
  ·omega
  ·exact h.mg g _ hg hm
 have hx:¬XO X ρ hp g:=by
  rintro (ho |⟨id,b',e1,e2⟩)
  ·exact h2 ho
  ·exact hm (e2▸(h.blk id b' e1).1.Jq)
 refine⟨bYH h1 h.below.size,hx,fun i s hs=>?_⟩;obtain⟨_,_,u,hu,hr⟩:=h3 i s hs;refine⟨bYH h1 h.below.size,hx,u,(World.cell?_of_block (a:=⟨g,0+i,none⟩) (h.below.block g hm)).trans hu,?_⟩;unfold xW at hs;rw[bXM]at hs;obtain⟨m,_,rfl⟩:=Option.map_eq_some_iff.1 hs;exact hr
theorem jT.ev{E:Env}{X:Nat->Prop}{w0:Old}{ρ:Nat->Nat}{al:Nat->Prop}{fr:Nat->A}{hp:Nat->Option mI}{a:Act}{w:World}
  (h:jT E X w0 ρ al fr hp a w) (x:Operand):zY ρ hp (XO X ρ hp) w (evA E fr x) (a.eval x)/\∀id∈refs (evA E fr x),al id:=by
 cases x with
 |tmp t=>exact⟨h.fr t,h.alr t⟩
 |const v =>
  simp only[evA];split
  ·rename_i hv;exact⟨⟨rfl,hv⟩,by simp[refs,refsV,refsL]⟩
  ·exact⟨trivial,by simp[refs]⟩
 |func f=>exact⟨⟨rfl,rfl⟩,by simp[evA,refs,refsV,refsL]⟩
 |global g =>
  simp only[evA];cases hg:E.glob g with
  |none=>exact⟨trivial,by simp[refs]⟩
  |some p =>
   obtain⟨k,ns⟩:=p;refine⟨⟨g,0,rfl,?_⟩,by simp[refs,refsV,refsL]⟩;exact(h.Th g k ns hg).2.2
end AI
namespace AI
open Go Go.RowKit
theorem Ih{R:Type}(op:BinOp)(x y:Value)(K:Value->Option R):binK op x y K=(binK op x y some).bind K:=by
 unfold binK;split
 ·split <;> (repeat' split) <;> first |rfl | (simp;done)
 ·split <;> (repeat' split) <;> first |rfl | (generalize Ieee.Format.add _ _ _=m;cases m <;> rfl) | (generalize Ieee.Format.sub _ _ _=m;cases m <;> rfl) | (generalize Ieee.Format.mul _ _ _=m;cases m <;> rfl) | (generalize Ieee.Format.div _ _ _=m;cases m <;> rfl)
 ·split <;> rfl
 ·rfl
theorem Li{R:Type}(op:UnOp)(x:Value)(K:Value->Option R):unK op x K=(unK op x some).bind K:=by
 unfold unK;split <;> simp
theorem Et{R:Type}(k:TK)(x:Value)(K:Value->Option R):convK k x K=(convK k x some).bind K:=by
 unfold convK;split
 ·simp
 ·simp
 ·rename_i s b;cases ((FloatKind.decode s b).toInt .zero)with
  |none=>rfl
  |some n=>simp only[bYV];split <;> simp
 ·split <;> simp
 ·rfl
theorem fdiv_pow(a:Int)(n:Nat):a.fdiv (2^n)=a/((2^n:Nat):Int):=by
 rw[Int.fdiv_eq_ediv_of_nonneg _ (by exact Int.le_of_lt (Int.pow_pos (by omega)))];simp
theorem Xg{P:Program}(op:BinOp)(t:TypeId)(x y:Operand)(k k':IntKind)(a b:Int)(w:World):(eqGuard op t x y (.int k a) (.int k' b)).run P w=.ok () w:=by
 unfold eqGuard;split <;> rfl
theorem Pt{P:Program}(op:BinOp)(t:TypeId)(x y:Operand)(k k':FloatKind)(a b:Nat)(w:World):(eqGuard op t x y (.float k a) (.float k' b)).run P w=.ok () w:=by
 unfold eqGuard;split <;> rfl
theorem Tm{P:Program}(op:BinOp)(t:TypeId)(x y:Operand)(a b:Bool)(w:World):(eqGuard op t x y (.bool a) (.bool b)).run P w=.ok () w:=by
 unfold eqGuard;split <;> rfl
theorem aSK{P:Program}(op:BinOp)(t:TypeId)(k k':IntKind)(a b:Int)(r:Value)(w:World)(h:binK op (.int k a) (.int k' b) some=some r) :
  (binOp op t (.int k a) (.int k' b)).run P w=.ok r w/\r.oneCell'=true:=by
 cases op <;> simp only[binK]at h
 case shl =>
  split at h <;> cases h;rename_i hb;simp[binOp,Op.shift,hb,Value.oneCell']
 case shr =>
  split at h <;> cases h;rename_i hb;simp[binOp,Op.shift,fdiv_pow,hb,Value.oneCell']
 case quo =>
  split at h <;> try (cases h;done)
  split at h <;> cases h;rename_i hk hb;simp[binOp,Op.intDiv,hk,hb,Value.oneCell']
 case rem =>
  split at h <;> try (cases h;done)
  split at h <;> cases h;rename_i hk hb;simp[binOp,Op.intDiv,hk,hb,Value.oneCell']
 all_goals
  split at h <;> cases h;rename_i hk;subst hk;simp[binOp,Op.intArith,Op.intCmp,Op.intBits,tG,bitsI0,Value.oneCell']
theorem aGU{P:Program}(op:BinOp)(t:TypeId)(k k':FloatKind)(a b:Nat)(r:Value)(w:World)(h:binK op (.float k a) (.float k' b) some=some r) :
  (binOp op t (.float k a) (.float k' b)).run P w=.ok r w/\r.oneCell'=true:=by
 cases op <;> simp only[binK]at h
 case add =>
  split at h <;> try (cases h;done)
  rename_i hk;subst hk;obtain⟨m,hm,hr⟩:=Option.bind_eq_some_iff.1 h;cases hr;simp[binOp,Op.floatArith,hm,Value.oneCell']
 case sub =>
  split at h <;> try (cases h;done)
  rename_i hk;subst hk;obtain⟨m,hm,hr⟩:=Option.bind_eq_some_iff.1 h;cases hr;simp[binOp,Op.floatArith,hm,Value.oneCell']
 case mul =>
  split at h <;> try (cases h;done)
  rename_i hk;subst hk;obtain⟨m,hm,hr⟩:=Option.bind_eq_some_iff.1 h;cases hr;simp[binOp,Op.floatArith,hm,Value.oneCell']
 case quo =>
  split at h <;> try (cases h;done)
  rename_i hk;subst hk;obtain⟨m,hm,hr⟩:=Option.bind_eq_some_iff.1 h;cases hr;simp[binOp,Op.floatArith,hm,Value.oneCell']
 all_goals (try (cases h;done))
 all_goals
  split at h <;> cases h;rename_i hk;subst hk;simp[binOp,Op.floatCmp,Value.oneCell']
theorem aGT{P:Program}(op:BinOp)(t:TypeId)(x y:Operand)(a b r:Value)(w:World)(hb:∀q,a=.bool q->P.underlying t=some .bool)(h:binK op a b some=some r) :
  (do eqGuard op t x y a b;binOp op t a b:Sem Value).run P w=.ok r w/\r.oneCell'=true:=by
 cases a with
 |int k a =>
  cases b with
  |int k' b=>rw[Sem.run_bind,Xg];exact aSK op t k k' a b r w h
  |_=>simp[binK]at h
 |float k a =>
  cases b with
  |float k' b=>rw[Sem.run_bind,Pt];exact aGU op t k k' a b r w h
  |_=>simp[binK]at h
 |bool a =>
  cases b with
  |bool b =>
   rw[Sem.run_bind,Tm];have ht:=hb a rfl;cases op <;> simp only[binK]at h <;> cases h
   ·exact⟨run_eql_bool w t a b ht,rfl⟩
   ·refine⟨?_,rfl⟩;rw[Result.andThen_ok];simp only[binOp];rw[Sem.run_bind,run_equal_bool w t a b ht];rfl
  |_=>simp[binK]at h
 |_=>simp[binK]at h
theorem aIE{P:Program}(op:UnOp)(a r:Value)(w:World)(h:unK op a some=some r) :
  (Op.unary op a).run P w=.ok r w/\r.oneCell'=true:=by
 unfold unK at h;split at h <;> cases h <;> simp[Op.unary,Op.intArith,Op.intBits,tG,bitsI0,Value.oneCell']
end AI
namespace AI
open Go Go.RowKit
section
variable {E:Env} {X:Nat->Prop} {w0:Old} {ρ ρ':Nat->Nat} {al al':Nat->Prop} {fr:Nat->A} {hp hp':Nat->Option mI} {a:Act} {w w':World}
theorem jT.change(h:jT E X w0 ρ al fr hp a w)
  (hl:jB (XO X ρ hp) w (XO X ρ' hp') w') (hb:Kept w0 w w')
  (hh:wX ρ ρ' hp hp' w w' al)
  (Js:∀id b,hp' id=some b->w0.El E.n0 id (ρ' id)/\Gt (XO X ρ' hp') w' (ρ' id) b)
  (Bl:∀id Yk b b',hp' id=some b->hp' Yk=some b'->ρ' id=ρ' Yk->id=Yk)
  (tE:∀id,al id->al' id) (aXY:∀id b,hp' id=some b->al' id):jT E X w0 ρ' al' fr hp' a w' :=
 { fr:=fun t=>zY.later hl hh (h.alr t) (h.fr t),sz:=h.sz,nod:=h.nod,blk:=Js,inj:=Bl,alh:=aXY,alr:=fun t id An=>tE id (h.alr t id An),below:=h.below.trans hb,x0:=h.x0,glob:=h.glob,mg:=h.mg,al0:=fun id hi=>tE id (h.al0 id hi),rB:=fun id hi=>(hh id (h.al0 id hi)).1.trans (h.rB id hi) }
def Cons(u:tH):Prop:=∀p∈u,p.2=none
theorem mH(u v:tH)(hp:Nat->Option mI):applyUps (u ++ v) hp=applyUps v (applyUps u hp):=by
 induction u generalizing hp with
 |nil=>rfl
 |cons p u ih=>obtain⟨i,b⟩:=p;simp only[bYS,applyUps];exact ih _
theorem dS{α:Type}(f:Nat->α)(d:Nat)(x:α):Ck f d x d=x:=by simp[Ck]
theorem gJ{α:Type}(f:Nat->α){d i:Nat}(x:α)(h:i≠d):Ck f d x i=f i:=by
 have:bXI i d=false:=by cases hb:bXI i d with
  |false=>rfl
  |true=>exact absurd (bXT hb) h
 simp[Ck,this]
theorem iK{u:tH}(hu:Cons u){hp:Nat->Option mI}{i:Nat}{b:mI}(h:applyUps u hp i=some b):hp i=some b:=by
 induction u generalizing hp with
 |nil=>exact h
 |cons p u ih =>
  obtain⟨j,c⟩:=p;have hc:c=none:=hu (j,c) (by simp);subst hc;have:=ih (fun p hp=>hu p (by simp[hp])) h
  by_cases bAR:i=j
  ·subst bAR;rw[dS]at this;cases this
  ·rwa [gJ _ _ bAR]at this
theorem Qc{u:tH}(hu:Cons u){hp:Nat->Option mI}{i:Nat}(h:(i,none)∈u):applyUps u hp i=none:=by
 induction u generalizing hp with
 |nil=>cases h
 |cons p u ih =>
  obtain⟨j,c⟩:=p;have hc:c=none:=hu (j,c) (by simp);subst hc;have Uy:Cons u:=fun p hp=>hu p (by simp[hp])
  rcases List.mem_cons.1 h with h |h
  ·cases h;cases hq:applyUps ((i,none) :: u) hp i with
   |none=>rfl
   |some b=>have:=iK Uy (hp:=Ck hp i none) hq;rw[dS]at this;cases this
  ·exact ih Uy h
theorem aPE.of_cons{u:tH}(hu:Cons u){b:Nat}(h:aPE ρ (applyUps u hp) b):aPE ρ hp b:=by
 obtain⟨id,bl,h1,h2⟩:=h;exact⟨id,bl,iK hu h1,h2⟩
theorem jB.cons{u:tH}(hu:Cons u):jB (XO X ρ hp) w (XO X ρ (applyUps u hp)) w :=
 ⟨bXK _,fun _ _ hx=>⟨rfl,fun h=>hx (h.imp id (aPE.of_cons hu))⟩⟩
theorem Gt.later{X X':Nat->Prop}{g:Nat}{b:mI}(h:jB X w X' w')(hg:w'.heap[g]?=w.heap[g]?)(r:Gt X w g b):Gt X' w' g b:=by
 obtain⟨arr,h1,h2⟩:=r;exact⟨arr,hg.trans h1,h2.later h⟩
theorem jT.cons(h:jT E X w0 ρ al fr hp a w){u:tH}(hu:Cons u):jT E X w0 ρ al fr (applyUps u hp) a w :=
 h.change (jB.cons hu) (Kept.refl _ _)
  (fun _ _=>⟨rfl,fun b' xJ=>⟨b',iK hu xJ,fun k ns e=>⟨k,ns,e,rfl⟩,rfl⟩⟩)
  (fun id b hb=>⟨(h.blk id b (iK hu hb)).1,(h.blk id b (iK hu hb)).2.later (jB.cons hu) rfl⟩)
  (fun id Yk b b' h1 h2 e=>h.inj id Yk b b' (iK hu h1) (iK hu h2) e)
  (fun _ h=>h) (fun id b hb=>h.alh id b (iK hu hb))
theorem Gt.lt{X:Nat->Prop}{g:Nat}{b:mI}(r:Gt X w g b):g<w.heap.size:=by
 obtain⟨arr,h1,_⟩:=r;exact(Array.getElem?_eq_some_iff.1 h1).1
theorem Gh(w:World)(o:Obj):(w.alloc o).heap[w.heap.size]?=some o:=heap_alloc_new w o
theorem xY(w:World)(o:Obj){k:Nat}(h:k<w.heap.size):(w.alloc o).heap[k]?=w.heap[k]?:=Below.heap_alloc w o k h
theorem jT.jW(h:jT E X w0 ρ al fr hp a w){id:Nat}{b:mI}(hb:hp id=some b):ρ id<w.heap.size:=(h.blk id b hb).2.lt
theorem Kept.alloc{o:Old}{w:World}(h:o.w.heap.size<=w.heap.size)(x:Obj):Kept o w (w.alloc x) :=
 ⟨rfl,rfl,rfl,by simp,fun _ hb=>xY w x (by have:=Old.Vz hb;omega),fun b hb=>yG (xY w x (by have:=o.bCA b hb;omega))⟩
theorem jT.alloc(h:jT E X w0 ρ al fr hp a w){id:Nat}(An:¬al id)(tE:∀i,al i->al' i)(wJ:al' id)(e:TypeId)(c:oI)(arr:Array Value)(hc:Qe (XO X ρ hp) w c arr) :
  jT E X w0 (Ck ρ id w.heap.size) al' fr (Ck hp id (some ⟨e,c⟩)) a (w.alloc (.cells arr e)):=by
 have Dq:∀i,al i->i≠id:=fun i hi e=>An (e▸hi)
 have hl:jB (XO X ρ hp) w (XO X (Ck ρ id w.heap.size) (Ck hp id (some ⟨e,c⟩))) (w.alloc (.cells arr e)):=by
  refine⟨by simp,fun b hb hx=>⟨xY w _ hb,fun ho=>?_⟩⟩;rcases ho with ho |⟨i,bl,h1,h2⟩
  ·exact hx (.inl ho)
  ·by_cases hi:i=id
   ·subst hi;rw[dS]at h2;omega
   ·rw[gJ _ _ hi]at h1 h2;exact hx (.inr ⟨i,bl,h1,h2⟩)
 refine h.change hl (Kept.alloc h.below.size _) ?_ ?_ ?_ tE ?_
 ·intro i hi;refine⟨gJ _ _ (Dq i hi),fun b' xJ=>?_⟩;rw[gJ _ _ (Dq i hi)]at xJ;refine⟨b',xJ,fun k ns e=>⟨k,ns,e,rfl⟩,?_⟩;unfold nG;rw[xY w _ (h.jW xJ)]
 ·intro i b hb
  by_cases hi:i=id
  ·subst hi;rw[dS]at hb;cases hb;refine⟨by rw[dS];exact .inl h.below.size,arr,by rw[dS];exact Gh w _,hc.later hl⟩
  ·rw[gJ _ _ hi]at hb;rw[gJ _ _ hi];exact⟨(h.blk i b hb).1,(h.blk i b hb).2.later hl (xY w _ (h.jW hb))⟩
 ·intro i i' b b' h1 h2 e
  by_cases hi:i=id
  ·by_cases aDP:i'=id
   ·rw[hi,aDP]
   ·subst hi;rw[gJ _ _ aDP]at h2;rw[dS,gJ _ _ aDP]at e;have:=h.jW h2;omega
  ·by_cases aDP:i'=id
   ·subst aDP;rw[gJ _ _ hi]at h1;rw[dS,gJ _ _ hi]at e;have:=h.jW h1;omega
   ·rw[gJ _ _ hi]at h1 e;rw[gJ _ _ aDP]at h2 e;exact h.inj i i' b b' h1 h2 e
 ·intro i b hb
  by_cases hi:i=id
  ·subst hi;exact wJ
  ·rw[gJ _ _ hi]at hb;exact tE i (h.alh i b hb)
theorem jT.setRow(h:jT E X w0 ρ al fr hp a w){id:Nat}{b:mI}(hb:hp id=some b)(c:oI)(arr:Array Value)(hs:sameShape b ⟨b.e,c⟩)(uR:nG w (ρ id)=arr.size)(hc:Qe (XO X ρ hp) w c arr) :
  jT E X w0 ρ al fr (Ck hp id (some ⟨b.e,c⟩)) a (w.setRow (ρ id) arr):=by
 obtain⟨Nh,bLQ,hg,_⟩:=h.blk id b hb;have wJ:(w.setRow (ρ id) arr).heap[ρ id]?=some (.cells arr b.e (0,0)):=setRow_heap w (ρ id) bLQ arr b.e _ hg;have hold:∀k,k≠ρ id->(w.setRow (ρ id) arr).heap[k]?=w.heap[k]?:=fun k hk=>setRow_other w (ρ id) k arr (fun e=>hk e)
 have tY:∀b',aPE ρ (Ck hp id (some ⟨b.e,c⟩)) b'->aPE ρ hp b':=by
  rintro b' ⟨i,bl,h1,h2⟩
  by_cases hi:i=id
  ·subst hi;exact⟨i,b,hb,h2⟩
  ·rw[gJ _ _ hi]at h1;exact⟨i,bl,h1,h2⟩
 have hl:jB (XO X ρ hp) w (XO X ρ (Ck hp id (some ⟨b.e,c⟩))) (w.setRow (ρ id) arr):=by
  refine⟨by simp[World.setRow],fun b' xJ hx=>⟨hold b' (fun e=>hx (.inr ⟨id,b,hb,e.symm⟩)),fun ho=>hx (ho.imp (fun h=>h) (tY b'))⟩⟩
 have Bl:∀i b',hp i=some b'->i≠id->ρ i≠ρ id:=fun i b' hi Dq e=>Dq (h.inj i id b' b hi hb e)
 refine h.change hl ⟨rfl,rfl,rfl,by simp[World.setRow],fun k hk=>hold k (fun e=>hk (e▸Nh.Jq)),fun k _=>by
  by_cases hk:k=ρ id
  ·rw[hk,uR];unfold nG;rw[wJ]
  ·exact yG (hold k hk)⟩ ?_ ?_ ?_ (fun _ h=>h) ?_
 ·intro i _;refine⟨rfl,fun b' xJ=>?_⟩
  by_cases hi:i=id
  ·subst hi;rw[dS]at xJ;cases xJ;refine⟨b,hb,hs,?_⟩;rw[uR];unfold nG;rw[wJ]
  ·rw[gJ _ _ hi]at xJ;refine⟨b',xJ,fun k ns e=>⟨k,ns,e,rfl⟩,?_⟩;unfold nG;rw[hold _ (Bl i b' xJ hi)]
 ·intro i b' xJ
  by_cases hi:i=id
  ·subst hi;rw[dS]at xJ;cases xJ;exact⟨Nh,arr,wJ,hc.later hl⟩
  ·rw[gJ _ _ hi]at xJ;exact⟨(h.blk i b' xJ).1,(h.blk i b' xJ).2.later hl (hold _ (Bl i b' xJ hi))⟩
 ·intro i i' b1 b2 h1 h2 e;have f:∀i b1,Ck hp id (some ⟨b.e,c⟩) i=some b1->∃b2,hp i=some b2:=by
   intro i b1 h1
   by_cases hi:i=id
   ·subst hi;exact⟨b,hb⟩
   ·rw[gJ _ _ hi]at h1;exact⟨b1,h1⟩
  obtain⟨c1,aDW⟩:=f i b1 h1;obtain⟨c2,aYH⟩:=f i' b2 h2;exact h.inj i i' c1 c2 aDW aYH e
 ·intro i b1 h1
  by_cases hi:i=id
  ·subst hi;exact h.alh i b hb
  ·rw[gJ _ _ hi]at h1;exact h.alh i b1 h1
theorem jT.Xa(h:jT E X w0 ρ al fr hp a w){id:Nat}{b:mI}(hb:hp id=some b){u:tH}(hu:Cons u)(An:(id,none)∈u):¬XO X ρ (applyUps u hp) (ρ id):=by
 rintro (hx |⟨i,bl,h1,h2⟩)
 ·exact h.x0 _ hx (h.blk id b hb).1.Jq
 ·have:=h.inj i id bl b (iK hu h1) hb h2;subst this;rw[Qc hu An]at h1;cases h1
theorem jT.zO(h:jT E X w0 ρ al fr hp a w){id:Nat}{e:TypeId}{k:IntKind}{ns:List Int}(hb:hp id=some ⟨e,.ints k ns⟩){i:Nat}{n:Int}(hi:ns[i]?=some n):w.cell? ⟨ρ id,i,none⟩=some (.int k n):=by
 obtain⟨_,arr,hg,hc⟩:=h.blk id _ hb;rw[cell_of_row w (ρ id) i arr e (0,0) hg];exact hc.2 i n hi
theorem xF(h:jT E X w0 ρ al fr hp a w){x:A}{v:Value}(hr:zY ρ hp (XO X ρ hp) w x v){cs:List S}{u:tH}(hc:cellsOf hp x=some (cs,u)) :
  Cons u/\mB (XO X ρ (applyUps u hp)) w cs v.cells.toList:=by
 unfold cellsOf at hc;split at hc
 ·cases hc;obtain⟨arr,rfl,hs⟩:=hr;exact⟨(fun p hp=>by cases hp),hs⟩
 ·cases hc;rename_i x;have hr:rH _ w x v:=hr;refine⟨(fun p hp=>by cases hp),?_⟩;have e:v.cells.toList=[v]:=by
   have:=hr.one;cases v <;> first |rfl | (simp[Value.oneCell']at this)
  rw[e];refine⟨rfl,fun i s u hs hu=>?_⟩
  match i with
  |0=>simp at hs hu;subst hs;subst hu;exact hr
  |i+1=>simp at hs
 ·split at hc <;> cases hc;rename_i id n o e k ns hb;obtain⟨cap,rfl,Fi,bKJ⟩:=hr;have hu:Cons [(id,none)]:=fun p hp=>by simp at hp;subst hp;rfl
  refine⟨hu,rfl,fun i s u hs Uy=>?_⟩
  match i with
  |0 =>
   simp[Value.cells]at hs Uy;subst hs;subst Uy;obtain⟨hn,_⟩:=bKJ _ k ns hb rfl;subst hn;refine⟨_,cap,rfl,Fi,fun i n hi=>⟨ρ id,0,rfl,h.jW hb,h.Xa hb hu (by simp),?_⟩⟩;rw[bXL];exact h.zO hb hi
  |i+1=>simp at hs
 ·split at hc <;> cases hc;rename_i id off n o e k ns hb;obtain⟨A0,cap,rfl,Fi,hA,hlen⟩:=xK hr;have hu:Cons [(id,none)]:=fun p hp=>by simp at hp;subst hp;rfl
  have hl:=hlen _ k ns hb rfl;refine⟨hu,rfl,fun i s u hs Uy=>?_⟩
  match i with
  |0 =>
   simp[Value.cells]at hs Uy;subst hs;subst Uy;refine⟨A0,cap,by simp;omega,by simp;omega,fun i m hi=>?_⟩;have Zx:i<n:=by
    have:=(List.getElem?_eq_some_iff.1 hi).1;simp at this;omega
   refine⟨ρ id,off,hA (by omega),h.jW hb,h.Xa hb hu (by simp),?_⟩;refine h.zO hb ?_;rw[bXU Zx,bXV]at hi;exact hi
  |i+1=>simp at hs
 ·cases hc
end
end AI
namespace AI
open Go Go.RowKit
def tS:TypeDesc->Bool
 | .struct _ | .array _ _=>true
 |_=>false
def Ox(P:Program):TK->TypeDesc->Prop
 | .bool,d=>d=.bool
 | .int k,d=>d=.int k
 | .float k,d=>d=.float k
 | .other,d=>tS d=false
 | .struct fs,d=>∃fields,d=.struct fields/\fs.length=fields.size/\∀(i:Nat) (f:Field),fields[i]?=some f->∃fi fd,P.info? f.type=some fi/\P.underlying f.type=some fd/\fs[i]?=some (f.offset,fi.size,tS fd)
 | .arr len wT g,d=>∃e ei ed,d=.array len e/\P.info? e=some ei/\ei.size=wT/\P.underlying e=some ed/\tS ed=g
 | .slice e,d=>d=.slice e
 | .str,d=>d=.string
def eqChkF(P:Program):Nat->List Field->List IntKind->Bool
 |_,[],[]=>true
 |i,f :: r,k :: ks=>(f.name != "_")&&(bXI f.offset i&&((match P.underlying f.type with
  |some (.int k')=>decide (k'=k)
  |_=>false)&&eqChkF P (i+1) r ks))
 |_,_,_=>false
def bAD(P:Program)(t:TypeId)(ks:List IntKind):Prop:=∃fields,P.underlying t=some (.struct fields)/\P.stoodInHeld t=false/\eqChkF P 0 fields.toList ks=true/\P.eqGuardType P.depth t=false
structure Dy(P:Program)(t:TypeId)(ti:TI):Prop where
 i:∃i,P.info? t=some i/\i.size=ti.size/\i.bytes=ti.bytes/\∃z,i.zero=some z/\z.cells.toList=ti.zero
 zl:ti.zero.length=ti.size
 zo:∀v∈ti.zero,v.oneCell'=true
 d:∃d,P.underlying t=some d/\Ox P ti.kind d
 eq:∀ks,yY ti=some ks->bAD P t ks
def qA(P:Program)(T:TypeId->Option TI):Prop:=∀t ti,T t=some ti->Dy P t ti
theorem Ox.agg{P:Program}{k:TK}{d:TypeDesc}(h:Ox P k d):tS d=k.isAgg:=by
 cases k with
 |other=>exact h
 |struct fs=>obtain⟨f,rfl,_⟩:=h;rfl
 |arr l e g=>obtain⟨_,_,_,rfl,_⟩:=h;rfl
 |_=>cases h;rfl
section
variable {P:Program} {t:TypeId} {ti:TI} {w:World}
theorem Dy.Qm(h:Dy P t ti):(isAgg t).run P w=.ok ti.kind.isAgg w:=by
 obtain⟨d,hd,hk⟩:=h.d;rw[<-hk.agg];unfold isAgg;rw[Sem.run_bind,run_underlying hd];cases d <;> rfl
theorem Fv{k:IntKind}(hu:P.underlying t=some (.int k)){cs:Array Value}{i:Nat}{v:Value}(hv:cs[i]?=some v):(part t cs i).run P w=.ok v w:=by
 have ha:(isAgg t).run P w=.ok false w:=by simp[isAgg,Sem.run_bind,run_underlying hu]
 unfold part;rw[Sem.run_bind,ha];simp[hv]
theorem aEE(d:Nat)(xs ys:Array Value):∀(fs:List Field) (ks:List IntKind) (i:Nat) (cs ds:List S) (q:Bool),eqChkF P i fs ks=true->eqInts ks cs ds=some q ->
  (∀(j:Nat) (c:Value),cs[j]?=some (.sc c)->xs[i+j]?=some c)->(∀(j:Nat) (c:Value),ds[j]?=some (.sc c)->ys[i+j]?=some c)->(Op.eqFields (d+1) xs ys fs).run P w=.ok q w
 | [],ks,i,cs,ds,q,h,he,hx,hy=>by
  cases ks with
  |cons=>cases h
  |nil =>
   have:q=true:=by cases cs <;> cases ds <;> simp[eqInts]at he <;> exact he
   subst this;rfl
 |f :: r,ks,i,cs,ds,q,h,he,hx,hy=>by
  cases ks with
  |nil=>cases h
  |cons k ks =>
   obtain⟨a,b,r1,r2,rfl,rfl,q',hq,rfl⟩:∃a b r1 r2,cs=.sc (.int k a) :: r1/\ds=.sc (.int k b) :: r2/\∃q',eqInts ks r1 r2=some q'/\q=((a==b)&&q'):=by
    clear hx hy
    match cs,ds,he with
    | .sc (.int k1 a) :: r1,.sc (.int k2 b) :: r2,Dk =>
     simp only[eqInts]at Dk;split at Dk
     ·rename_i hk;obtain⟨rfl,rfl⟩:=hk;obtain⟨q',hq,rfl⟩:=Option.map_eq_some_iff.1 Dk;exact⟨a,b,r1,r2,rfl,rfl,q',hq,rfl⟩
     ·cases Dk
   unfold eqChkF at h;simp only[bXN,bne_iff_ne,ne_eq]at h;obtain⟨hn,ho,hu,hr⟩:=h;have ho:=bXT ho;split at hu
   ·rename_i k' Uy;have x0:=hx 0 _ rfl;have y0:=hy 0 _ rfl;have ih:=aEE d xs ys r ks (i+1) r1 r2 q' hr hq (fun j c hc=>by have:=hx (j+1) c hc;rwa [show i+(j+1)=i+1+j from by omega]at this) (fun j c hc=>by have:=hy (j+1) c hc;rwa [show i+(j+1)=i+1+j from by omega]at this);rw[bYI,<-ho]at x0 y0;simp only[Op.eqFields,ne_eq,hn,not_false_eq_true,if_true,Sem.run_bind,Fv Uy x0,Fv Uy y0,Result.andThen_ok,run_equalIn_int w d f.type _ _ a b Uy];cases aRI:(a==b)with
    |true=>simpa [Sem.run_ite] using ih
    |false=>simp
   ·cases hu
theorem aYP{ks:List IntKind}(h:bAD P t ks){xs ys:Array Value}{cs ds:List S}{q:Bool}(he:eqInts ks cs ds=some q)
  (hx:∀(j:Nat) (c:Value),cs[j]?=some (.sc c)->xs[j]?=some c) (hy:∀(j:Nat) (c:Value),ds[j]?=some (.sc c)->ys[j]?=some c) :
  (∀y z,(do eqGuard .eql t y z (.agg xs) (.agg ys);binOp .eql t (.agg xs) (.agg ys):Sem Value).run P w=.ok (.bool q) w)/\(∀y z,(do eqGuard .neq t y z (.agg xs) (.agg ys);binOp .neq t (.agg xs) (.agg ys):Sem Value).run P w=.ok (.bool (!q)) w):=by
 obtain⟨fields,hu,hs,hf,hg⟩:=h;have aHU:P.fieldsOf t=fields:=by simp[Program.fieldsOf,hu]
 have hr:(Op.equal t (.agg xs) (.agg ys)).run P w=.ok q w:=by
  show(Op.equalIn (9999+1) t (.agg xs) (.agg ys)).run P w=_;rw[run_equalIn_struct w 9999 t xs ys (by rw[aHU];exact hu) hs,aHU];exact aEE (w:=w) 9998 xs ys fields.toList ks 0 cs ds q hf he (fun j c hc=>by rw[bXL];exact hx j c hc) (fun j c hc=>by rw[bXL];exact hy j c hc)
 constructor <;> intro y z <;> rw[Sem.run_bind,run_eqGuard_agg (w:=w) _ t y z xs ys hg,Result.andThen_ok]
 ·show(do pure (Value.bool (<-Op.equal t (.agg xs) (.agg ys))):Sem Value).run P w=_;rw[Sem.run_bind,hr];rfl
 ·show(do pure (Value.bool (!(<-Op.equal t (.agg xs) (.agg ys)))):Sem Value).run P w=_;rw[Sem.run_bind,hr];rfl
theorem Dy.run_sizeOf(h:Dy P t ti):(sizeOf t).run P w=.ok ti.size w:=by
 obtain⟨i,hi,hs,_⟩:=h.i;simp[sizeOf,typeInfo,hi,hs]
theorem Dy.aJN(h:Dy P t ti):∃z,(zeroValue t).run P w=.ok z w/\z.cells.toList=ti.zero:=by
 obtain⟨i,hi,hs,hb,z,hz,hc⟩:=h.i;exact⟨z,by simp[zeroValue,typeInfo,hi,hz],hc⟩
end
theorem bJ{α:Type}{l:List α}{i:Nat}{x:α}(h:l[i]?=some x):i<l.length:=(List.getElem?_eq_some_iff.1 h).1
theorem cK{α:Type}{l:List α}{i:Nat}(h:i<l.length):∃x,l[i]?=some x:=⟨l[i],bXY h⟩
theorem oF(b off n:Nat):(⟨b,off,none⟩:Addr).add n=⟨b,off+n,none⟩:=by unfold Addr.add;split <;> simp_all
theorem Vf{X:Nat->Prop}{w:World}{zs:List Value}(hz:∀v∈zs,v.oneCell'=true):mB X w (zs.map .sc) zs:=by
 refine⟨by simp,fun i s u hs hu=>?_⟩;simp only[bXM,hu,bXW,Option.some.injEq]at hs;subst hs;exact⟨rfl,hz u (bXQ hu)⟩
theorem aHZ{X:Nat->Prop}{w:World}{zs:List Value}(wd:Option IntKind)(hz:∀v∈zs,v.oneCell'=true):mB X w (zs.map (wideS wd)) zs:=by
 refine⟨by simp,fun i s u hs hu=>?_⟩;simp only[bXM,hu,bXW,Option.some.injEq]at hs;subst hs;have h0:=hz u (bXQ hu);unfold wideS;split
 ·exact⟨rfl,h0⟩
 ·split
  ·exact⟨none,0,rfl,bXK _,fun i n hn=>by simp at hn⟩
  ·exact⟨rfl,h0⟩
theorem mB.cells{X:Nat->Prop}{w:World}{cs:List S}{arr:Array Value}(h:mB X w cs arr.toList):Qe X w (.cells cs) arr :=
 ⟨by simpa using h.1,fun i s hs=>by
  have jM:=bJ hs;rw[h.1]at jM;obtain⟨u,hu⟩:=cK jM;exact⟨u,by simpa using hu,h.2 i s u hs hu⟩⟩
theorem Su{P:Program}{X:Nat->Prop}{w:World}{t:TypeId}{ti:TI}(hT:Dy P t ti){b off:Nat}{cs:List S}(hc:∀(i:Nat) (s:S),cs[i]?=some s->∃u,w.cell? ⟨b,off+i,none⟩=some u/\rH X w s u)
  {j:Nat} {x:V} (hp:partOf ti cs j=some x) {ρ:Nat->Nat} {hp':Nat->Option mI}:∃v,(loadVar t ⟨b,off+j,none⟩).run P w=.ok v w/\Gs ρ hp' X w x v/\refsV x=[]:=by
 unfold partOf at hp;unfold loadVar;rw[Sem.run_bind,hT.Qm,Result.andThen_ok];split at hp
 ·rename_i aAA;split at hp
  ·rename_i hle;cases hp;rw[if_pos aAA,Sem.run_bind,hT.run_sizeOf,Result.andThen_ok];have hex:∀i,i<ti.size->∃u,w.cell? ⟨b,off+j+i,none⟩=some u/\∀s,cs[j+i]?=some s->rH X w s u:=by
    intro i hi;obtain⟨s,hs⟩:=cK (l:=cs) (i:=j+i) (by omega);obtain⟨u,hu,hr⟩:=hc (j+i) s hs;refine⟨u,by rw[<-hu];congr 2;omega,fun s' tW=>?_⟩;rw[hs]at tW;cases tW;exact hr
   obtain⟨f,hf⟩:∃f:Nat->Value,∀i,i<ti.size->w.cell? ⟨b,off+j+i,none⟩=some (f i)/\∀s,cs[j+i]?=some s->rH X w s (f i) :=
    ⟨fun i=>if h:i<ti.size then Classical.choose (hex i h)else undef,fun i hi=>by simp only[hi,dif_pos];exact Classical.choose_spec (hex i hi)⟩
   have hl:=run_loadCells_list (P:=P) w ⟨b,off+j,none⟩ ((bYR ti.size).map f) (fun i v hv=>by
    have hi:=bJ hv;simp at hi;rw[oF,(hf i hi).1];simpa [hi] using hv)
   simp only[bYW,List.length_range]at hl;rw[Sem.run_bind,hl];refine⟨_,rfl,⟨_,rfl,⟨by simp;omega,fun i s u hs hu=>?_⟩⟩,rfl⟩;have hi:=bJ hu;simp at hi;have Uy:u=f i:=by simpa [hi] using hu.symm
   subst Uy;refine(hf i hi).2 s ?_;rw[bXU hi,bXV]at hs;exact hs
  ·cases hp
 ·rename_i aAA;split at hp <;> cases hp;rename_i c bUM;obtain⟨u,hu,hr⟩:=hc j c bUM;refine⟨u,?_,hr,rfl⟩;rw[if_neg (by simpa using aAA),run_load,hu]
theorem List.yW{α:Type}(cs new:List α)(off i:Nat)(h:off+new.length<=cs.length) :
  (cs.take off ++ (new ++ cs.drop (off+new.length)))[i]?=if off<=i/\i<off+new.length then new[i-off]? else cs[i]?:=by
 by_cases h1:i<off
 ·rw[bZM (by simp;omega),bXU h1,bG]
 ·rw[bZN (by simp;omega)];have e:(cs.take off).length=off:=by simp;omega
  rw[e]
  by_cases h2:i<off+new.length
  ·rw[bZM (by omega),aT]
  ·rw[bZN (by omega),bG,bXV];congr 1;omega
theorem Lr{X:Nat->Prop}{w:World}{cs new:List S}{vs bFQ:List Value}(h:mB X w cs vs)(hn:mB X w new bFQ){off:Nat}(hle:off+new.length<=cs.length) :
  mB X w (setAt cs off new) (vs.take off ++ (bFQ ++ vs.drop (off+bFQ.length))):=by
 have h1:=h.1;have h2:=hn.1;refine⟨by unfold setAt;simp;omega,fun i s u hs hu=>?_⟩;unfold setAt at hs;rw[List.yW cs new off i hle]at hs;rw[List.yW vs bFQ off i (by omega)]at hu
 by_cases hi:off<=i/\i<off+new.length
 ·rw[if_pos hi]at hs;rw[aT]at hu;exact hn.2 _ s u hs hu
 ·rw[if_neg hi]at hs;rw[bG]at hu;exact h.2 _ s u hs hu
end AI
namespace AI
open Go Go.RowKit
def qU(al:Nat->Prop)(id:Nat):Nat->Prop:=fun i=>al i\/(id<=i/\i<id+8)
section
variable {P:Program} {E:Env} {X:Nat->Prop} {w0:Old} {ρ:Nat->Nat} {al:Nat->Prop} {fr:Nat->A} {hp:Nat->Option mI} {a:Act} {w:World} {o:Oper} {id:Nat} {x:A} {u:tH}
def lI(P:Program)(E:Env)(X:Nat->Prop)(w0:Old)(al:Nat->Prop)(fr:Nat->A)(hp:Nat->Option mI)(a:Act)(w:World)(o:Oper)(id:Nat)(x:A)(u:tH):Prop :=
 ∃ρ' v w',((execOp a.eval o).run P w=.ok (.value v) w'\/((execOp a.eval o).run P w=.ok .skip w'/\v=undef))/\jT E X w0 ρ' (qU al id) (Ei o x fr) (applyUps u hp) (a.put o.dst v) w'
theorem jT.more(h:jT E X w0 ρ al fr hp a w)(id:Nat):jT E X w0 ρ (qU al id) fr hp a w :=
 { fr:=h.fr,sz:=h.sz,nod:=h.nod,blk:=h.blk,inj:=h.inj,alh:=fun i b hb=>.inl (h.alh i b hb),alr:=fun t i hi=>.inl (h.alr t i hi),below:=h.below,x0:=h.x0,glob:=h.glob,mg:=h.mg,al0:=fun i hi=>.inl (h.al0 i hi),rB:=h.rB }
theorem dC(h:jT E X w0 ρ al fr hp a w)(hd:kG E.nt o=true){v:Value}(iC:(execOp a.eval o).run P w=.ok (.value v) w)(hx:zY ρ hp (XO X ρ hp) w x v)(bCP:∀i∈refs x,al i) :
  lI P E X w0 al fr hp a w o id x [] :=
 ⟨ρ,v,w,.inl iC,(h.more id).pure hd hx (fun i hi=>.inl (bCP i hi))⟩
theorem oC(v:Value):refs (Dh v)=[]:=rfl
theorem Xi(h:jT E X w0 ρ al fr hp a w)(hd:kG E.nt o=true){y:Operand}(ho:o.op=.move y\/o.op=.assign y)(he:sV E id o (evA E fr) hp=some (x,u)):lI P E X w0 al fr hp a w o id x u:=by
 have h1:=h.ev y;rcases ho with ho |ho
 all_goals
  unfold sV effK at he;rw[ho]at he;cases he;exact dC h hd (v:=a.eval y) (by unfold execOp;rw[ho];rfl) h1.1 h1.2
theorem aMC(h:jT E X w0 ρ al fr hp a w)(hd:kG E.nt o=true){c y z:Operand}(ho:o.op=.pick c y z)(he:sV E id o (evA E fr) hp=some (x,u)):lI P E X w0 al fr hp a w o id x u:=by
 have hc:=(h.ev c).1;have hy:=h.ev y;have hz:=h.ev z;have iC:∀t,a.eval c=.bool t->(execOp a.eval o).run P w=.ok (.value (if t then a.eval y else a.eval z)) w:=by
  intro t ht;unfold execOp;rw[ho];simp[ht,asBool]
 unfold sV effK at he;rw[ho]at he;simp only at he;split at he
 ·rename_i t bKG;rw[bKG]at hc;have aXT:a.eval c=.bool t:=hc.1;split at he
  ·rename_i p q Hw Sz;cases he;rw[Hw]at hy;rw[Sz]at hz;have e1:a.eval y=.bool p:=hy.1.1;have e2:a.eval z=.bool q:=hz.1.1;refine dC h hd (iC t aXT) ?_ (by simp[oC]);rw[e1,e2];cases t <;> exact⟨rfl,rfl⟩
  ·cases t <;> cases he
   ·exact dC h hd (iC false aXT) (by simpa using hz.1) hz.2
   ·exact dC h hd (iC true aXT) (by simpa using hy.1) hy.2
 ·cases he
theorem vK(id:Nat):qU al id id:=.inr ⟨bXK _,by omega⟩
theorem Lx(e:TypeId)(v:Value):(newVar e v).run P w=.ok ⟨w.heap.size,0,none⟩ (w.alloc (.cells v.cells e)):=rfl
theorem aGL(h:jT E X w0 ρ al fr hp a w)(hd:kG E.nt o=true)(hT:qA P E.T)(An:∀j,j<8->¬al (id+j)){e:TypeId}(ho:o.op=.alloc e)(he:sV E id o (evA E fr) hp=some (x,u)):lI P E X w0 al fr hp a w o id x u:=by
 unfold sV effK at he;rw[ho]at he;simp only at he;split at he
 ·rename_i ti yQ;cases he;have ht:=hT e ti yQ;obtain⟨z,hz,Sw⟩:=ht.aJN (w:=w);have Jr:Qe (XO X ρ hp) w (.cells (ti.zero.map (wideS E.wide))) z.cells:=by
   refine mB.cells ?_;rw[Sw];exact aHZ E.wide ht.zo
  have h1:=h.alloc (id:=id) (al':=qU al id) (An 0 (by omega)) (fun _ h=>.inl h) (vK id) e _ _ Jr;refine⟨_,.pointer (some ⟨w.heap.size,0,none⟩),_,.inl ?_,h1.pure hd (x:=.v (.one (.ptr id 0))) ?_ ?_⟩
  ·unfold execOp;rw[ho];simp only[Instr.alloc,Sem.run_bind,hz,Result.andThen_ok,Sem.run_pure,Lx]
  ·show _=_;rw[dS]
  ·intro i hi;simp only[refs,refsV,refsL,bYA]at hi;subst hi;exact vK i
 ·cases he
theorem aRV(h:jT E X w0 ρ al fr hp a w)(hd:kG E.nt o=true)(An:∀j,j<8->¬al (id+j)){e:TypeId}{y:Operand}(ho:o.op=.box e y)(he:sV E id o (evA E fr) hp=some (x,u)):lI P E X w0 al fr hp a w o id x u:=by
 unfold sV effK at he;rw[ho]at he;simp only at he;split at he
 ·rename_i ti cs u1 yQ Nd;split at he <;> cases he;obtain⟨hu,Jr⟩:=xF h (h.ev y).1 Nd;have h0:=h.cons hu;have h1:=h0.alloc (id:=id) (al':=qU al id) (An 0 (by omega)) (fun _ h=>.inl h) (vK id) e (.cells cs) _ Jr.cells;unfold lI;rw[mH];refine⟨_,.pointer (some ⟨w.heap.size,0,none⟩),_,.inl ?_,h1.pure hd (x:=.v (.one (.ptr id 0))) ?_ ?_⟩
  ·unfold execOp;rw[ho];simp only[Instr.box,Sem.run_bind,Result.andThen_ok,Sem.run_pure,Lx]
  ·show _=_;rw[dS]
  ·intro i hi;simp only[refs,refsV,refsL,bYA]at hi;subst hi;exact vK i
 ·cases he
theorem aMD(h:jT E X w0 ρ al fr hp a w)(hd:kG E.nt o=true)(hT:qA P E.T){t:TypeId}{y:Operand}(ho:o.op=.load t y)(he:sV E id o (evA E fr) hp=some (x,u)):lI P E X w0 al fr hp a w o id x u:=by
 have hy:=(h.ev y).1;have iC:∀ad v,a.eval y=.pointer (some ad)->(loadVar t ad).run P w=.ok v w->(execOp a.eval o).run P w=.ok (.value v) w:=by
  intro ad v h1 h2;unfold execOp;rw[ho];simp only[h1,Instr.loadAt,Instr.sureAddr,Sem.run_bind,Sem.run_pure,Result.andThen_ok,h2]
 unfold sV effK at he;rw[ho]at he;simp only at he;split at he
 ·rename_i ti yQ;have ht:=hT t ti yQ;split at he
  ·rename_i i off jO;rw[jO]at hy;have hy:a.eval y=.pointer (some ⟨ρ i,off,none⟩):=hy;split at he
   ·rename_i e cs hb;obtain⟨_,arr,hg,hc⟩:=h.blk i _ hb;split at he <;> cases he;rename_i v hv;obtain⟨v',h1,h2,h3⟩:=Su (P:=P) ht (b:=ρ i) (off:=0) (cs:=cs) (fun j s hs=>by
     obtain⟨u,hu,hr⟩:=hc.2 j s hs;exact⟨u,by rw[cell_of_row w (ρ i) _ arr e (0,0) hg];simpa using hu,hr⟩) hv (ρ:=ρ) (hp':=hp)
    rw[bXL]at h1;exact dC h hd (iC _ _ hy h1) h2 (by simp[refs,h3])
   ·cases he
  ·rename_i i j jO;rw[jO]at hy;obtain⟨hy,jM⟩:=hy;split at he
   ·rename_i e k ns hb aAA;cases he;have hj:=jM _ k ns hb rfl;have hc:=h.zO hb (bXY hj);refine dC h hd (v:=.int k (ns.getD j 0)) (iC _ _ hy ?_) ⟨rfl,rfl⟩ (by simp[oC]);unfold loadVar;rw[Sem.run_bind,ht.Qm,Result.andThen_ok,if_neg (by simp[aAA]),run_load,hc];simp[bYX,hj]
   ·cases he
  ·rename_i cs jO;rw[jO]at hy;obtain⟨b,off,hy,hc⟩:=hy;split at he <;> cases he;rename_i v hv;obtain⟨v',h1,h2,h3⟩:=Su (P:=P) ht (b:=b) (off:=off) (cs:=cs) (fun j s hs=>by
    obtain⟨_,_,u,hu,hr⟩:=hc j s hs;exact⟨u,hu,hr⟩) hv (ρ:=ρ) (hp':=hp)
   rw[bYI]at h1;exact dC h hd (iC _ _ hy h1) h2 (by simp[refs,h3])
  ·cases he
 ·cases he
theorem qT{g:Nat}{arr:Array Value}{e:TypeId}{f:Nat×Nat}(h:w.heap[g]?=some (.cells arr e f)):nG w g=arr.size:=by unfold nG;rw[h]
theorem aGF(h:jT E X w0 ρ al fr hp a w)(hd:kG E.nt o=true)(hT:qA P E.T){t:TypeId}{y z:Operand}(ho:o.op=.store t y z)(he:sV E id o (evA E fr) hp=some (x,u)):lI P E X w0 al fr hp a w o id x u:=by
 have hy:=(h.ev y).1;have hz:=(h.ev z).1;have iC:∀ad w',a.eval y=.pointer (some ad)->(storeVar t ad (a.eval z)).run P w=.ok () w'->(execOp a.eval o).run P w=.ok .skip w':=by
  intro ad w' h1 h2;unfold execOp;rw[ho];simp only[h1,Instr.storeAt,Instr.sureAddr,Sem.run_bind,Sem.run_pure,Result.andThen_ok,h2]
 unfold sV effK at he;rw[ho]at he;simp only at he;split at he
 ·rename_i ti yQ;have ht:=hT t ti yQ;split at he
  ·rename_i i off jO;rw[jO]at hy;have hy:a.eval y=.pointer (some ⟨ρ i,off,none⟩):=hy;split at he
   ·rename_i e cs new u1 hb bUJ;split at he <;> cases he;rename_i Nf;obtain⟨Jd,bAQ,bSI⟩:=Nf;obtain⟨hu,Jr⟩:=xF h hz bUJ;have h0:=h.cons hu;have hb0:applyUps u1 hp i=some ⟨e,.cells cs⟩:=by
     have:∀(u:tH) (hp:Nat->Option mI),(u.all fun p=>p.1 !=i)=true->applyUps u hp i=hp i:=by
      intro u
      induction u with
      |nil=>intros;rfl
      |cons p u ih =>
       intro hp En;obtain⟨j,c⟩:=p;simp only[List.all_cons,bXN,bne_iff_ne]at En;rw[applyUps,ih _ En.2,gJ _ _ (fun e=>En.1 e.symm)]
     rw[this u1 hp bSI];exact hb
    obtain⟨_,arr,hg,hc⟩:=h0.blk i _ hb0;have uR:arr.size=cs.length:=hc.1.symm;have bIM:(a.eval z).cells.size=new.length:=by have:=Jr.1;simpa using this.symm
    have aFZ:∀v∈(a.eval z).cells.toList,v.oneCell'=true:=by
     intro v hv;obtain⟨k,hk⟩:=bYJ hv;obtain⟨s,hs⟩:=cK (l:=new) (i:=k) (by rw[Jr.1];exact bJ hk);exact(Jr.2 k s v hs hk).one
    have aFW:=run_storeCells_at P (ρ i) off e (a.eval z).cells.toList 0 arr w hg (by simp;omega) aFZ;simp only[bYI]at aFW;have aWY:mB (XO X ρ (applyUps u1 hp)) w (setAt cs off new) (arr.toList.take off ++ ((a.eval z).cells.toList ++ arr.toList.drop (off+(a.eval z).cells.toList.length))) :=
     Lr ⟨by simpa using hc.1,fun i s u hs hu=>by
      obtain⟨u',Uy,hr⟩:=hc.2 i s hs;have:u=u':=by have:=Uy;simp at hu;rw[hu]at this;exact Option.some.inj this
      subst this;exact hr⟩ Jr bAQ
    have h1:=h0.setRow hb0 (.cells (setAt cs off new)) (arr.toList.take off ++ ((a.eval z).cells.toList ++ arr.toList.drop (off+(a.eval z).cells.toList.length))).toArray
     (fun k ns e=>by cases e) (by rw[qT hg];simp;omega) (mB.cells (by simpa using aWY))
    unfold lI;rw[mH];refine⟨ρ,undef,_,.inr ⟨iC _ _ hy ?_,rfl⟩,(h1.more id).pure hd (x:=.any) trivial (by simp[refs])⟩;unfold storeVar;rw[Sem.run_bind,ht.run_sizeOf,Result.andThen_ok,if_neg (by rw[bIM,Jd];simp),aFW];simp[bYY]
   ·cases he
  ·rename_i i j jO;rw[jO]at hy;obtain⟨hy,jM⟩:=hy;split at he
   ·rename_i e k ns k' n hb bUE;split at he <;> cases he;rename_i hk;obtain⟨rfl,aWX⟩:=hk;have hj:=jM _ k ns hb rfl;rw[bUE]at hz;have hz:a.eval z=.int k n:=hz.1;obtain⟨_,arr,hg,hc⟩:=h.blk i _ hb;have bOF:j<arr.size:=bYH hj hc.1;have aFW:=run_storeCells_at P (ρ i) j e [.int k n] 0 arr w hg (by simp;omega) (by simp[Value.oneCell']);simp only[bYI]at aFW;have aWW:(arr.toList.take j ++ [Value.int k n] ++ arr.toList.drop (j+[Value.int k n].length)).toArray=arr.setIfInBounds j (.int k n):=by
     apply Array.ext';simp only[Array.toList_setIfInBounds,List.length_cons,List.length_nil];rw[List.set_eq_take_append_cons_drop,if_pos (by simpa using bOF)];simp
    rw[aWW]at aFW;have h1:=h.setRow hb (.ints k (ns.set j n)) (arr.setIfInBounds j (.int k n)) (fun k1 aDG e=>by cases e;exact⟨k,ns,rfl,by simp⟩) (by rw[qT hg];simp) (by
     refine⟨by simpa using hc.1,fun l m hl=>?_⟩;rw[List.getElem?_set]at hl;rw[Array.getElem?_setIfInBounds];split at hl
     ·rename_i aDO;subst aDO;rw[if_pos rfl,if_pos bOF];first | (cases hl;rfl) | (split at hl <;> cases hl;rfl)
     ·rename_i aDO;rw[if_neg aDO];exact hc.2 l m hl)
    refine⟨ρ,undef,_,.inr ⟨iC _ _ hy ?_,rfl⟩,(h1.more id).pure hd (x:=.any) trivial (by simp[refs])⟩;unfold storeVar;rw[Sem.run_bind,ht.run_sizeOf,Result.andThen_ok,hz,if_neg (by simp[Value.cells,aWX])];exact aFW
   ·cases he
  ·cases he
 ·cases he
theorem Gn{u:tH}(hu:Cons u)(hp:Nat->Option mI)(i:Nat):applyUps u hp i=if i∈u.map (·.1)then none else hp i:=by
 induction u generalizing hp with
 |nil=>rfl
 |cons p u ih =>
  obtain⟨j,c⟩:=p;have hc:c=none:=hu (j,c) (by simp);subst hc;rw[applyUps,ih (fun p hp=>hu p (by simp[hp]))]
  by_cases bAR:i=j
  ·subst bAR;rw[dS];simp
  ·rw[gJ _ _ bAR];simp only[bXJ,bYO,bAR,false_or]
theorem mB.Rc{cs:List S}{vs:List Value}{u1 u2:tH}(h1:Cons u1)(h2:Cons u2)(hs:∀i,i∈u1.map (·.1)->i∈u2.map (·.1))(h:mB (XO X ρ (applyUps u1 hp)) w cs vs):mB (XO X ρ (applyUps u2 hp)) w cs vs:=by
 refine h.later ⟨bXK _,fun b _ hx=>⟨rfl,fun ho=>hx (ho.imp (fun h=>h) ?_)⟩⟩;rintro ⟨i,bl,hb,hr⟩;refine⟨i,bl,?_,hr⟩;rw[Gn h2]at hb;rw[Gn h1];split at hb
 ·cases hb
 ·rename_i hn;rw[if_neg (fun h=>hn (hs i h))];exact hb
theorem Xb(off:Nat):∀(vs:List Value) (k:Nat) (arr:Array Value),off+k+vs.length<=arr.size ->
  ((vs.zipIdx k).foldl (fun cs p=>cs.setIfInBounds (off+p.2) p.1) arr).toList=arr.toList.take (off+k) ++ vs ++ arr.toList.drop (off+k+vs.length)
 | [],k,arr,_=>by simp
 |v :: vs,k,arr,h=>by
  simp only[List.zipIdx_cons,List.foldl_cons];rw[Xb off vs (k+1) (arr.setIfInBounds (off+k) v) (by simp at h ⊢;omega)];simp only[Array.toList_setIfInBounds];have:=list_seg_step arr.toList (off+k) v vs (by simp at h ⊢;omega);simpa [Nat.add_assoc] using this
theorem nW{R:Type}(hp:Nat->Option mI)(place:Nat->Option (Nat×Nat))(ev:Operand->A)(parts:List (Nat×Operand))(cs:List S)(u:tH)(K:List S->tH->Option R) :
  fillK hp place ev parts cs u K=(fillK hp place ev parts cs u (fun cs u=>some (cs,u))).bind fun r=>K r.1 r.2:=by
 induction parts generalizing cs u with
 |nil=>rfl
 |cons p rest ih =>
  obtain⟨i,y⟩:=p;simp only[fillK];split
  ·split
   ·exact ih _ _
   ·rfl
  ·rfl
theorem zH(h:jT E X w0 ρ al fr hp a w)(place:Nat->Option (Nat×Nat)):∀(parts:List (Nat×Operand)) (cs:List S) (u:tH) (arr:Array Value) (aUW:List S) (u':tH),
  Cons u->mB (XO X ρ (applyUps u hp)) w cs arr.toList->fillK hp place (evA E fr) parts cs u (fun cs u=>some (cs,u))=some (aUW,u') ->
  Cons u'/\∃pE,Instr.fill place arr (parts.map fun p=>(p.1,a.eval p.2))=some pE/\mB (XO X ρ (applyUps u' hp)) w aUW pE.toList/\pE.size=arr.size
 | [],cs,u,arr,aUW,u',hu,hr,he=>by cases he;exact⟨hu,arr,rfl,hr,rfl⟩
 | (i,y) :: rest,cs,u,arr,aUW,u',hu,hr,he=>by
  simp only[fillK]at he;split at he
  ·rename_i off size new u1 Zu bUK;split at he
   ·rename_i Nf;obtain⟨aHM,hn⟩:=xF h (h.ev y).1 bUK;have uR:(a.eval y).cells.size=size:=by have:=hn.1;simp at this;omega
    have hle:off+(a.eval y).cells.size<=arr.size:=by have:=hr.1;simp at this;omega
    have bKF:Cons (u ++ u1):=fun p hp=>(List.mem_append.1 hp).elim (hu p) (aHM p)
    have bSP:mB (XO X ρ (applyUps (u ++ u1) hp)) w cs arr.toList:=hr.Rc hu bKF (fun i hi=>by simp only[bYD,bYK];exact .inl hi);have aKX:mB (XO X ρ (applyUps (u ++ u1) hp)) w new (a.eval y).cells.toList:=hn.Rc aHM bKF (fun i hi=>by simp only[bYD,bYK];exact .inr hi);have aWU:=Lr bSP aKX Nf.2;have bDX:=Xb off (a.eval y).cells.toList 0 arr (by simpa using hle);obtain⟨aAR,aUR⟩:∃aAR,aAR=(a.eval y).cells.zipIdx.foldl (fun cs p=>cs.setIfInBounds (off+p.2) p.1) arr:=⟨_,rfl⟩;have Jd:aAR.toList=arr.toList.take off ++ ((a.eval y).cells.toList ++ arr.toList.drop (off+(a.eval y).cells.toList.length)):=by
     rw[aUR,<-Array.foldl_toList,Array.toList_zipIdx,bDX];simp[bYY]
    rw[<-Jd]at aWU;have bIS:aAR.size=arr.size:=by
     have:aAR.toList.length=arr.toList.length:=by rw[Jd];simp;omega
     simpa using this
    obtain⟨bKE,pE,hf,Jr,hs⟩:=zH h place rest (setAt cs off new) (u ++ u1) aAR aUW u' bKF aWU he;refine⟨bKE,pE,?_,Jr,hs.trans bIS⟩;rw[bXJ,Instr.fill,Zu];simp only;rw[if_neg (by simp;omega)];have e:(Array.foldl (fun cs (x:Value×Nat)=>match x with | (c,j)=>cs.setIfInBounds (off+j) c) arr (a.eval y).cells.zipIdx)=aAR:=aUR.symm;rw[e];exact hf
   ·cases he
  ·cases he
theorem Bf{α β:Type}{f:α->Option β}:∀{l:List α} {r:List β},l.mapM f=some r->r.length=l.length
 | [],r,h=>by simp at h;subst h;rfl
 |x :: l,r,h=>by
  rw[bYE]at h;simp only[bZO,bZP,bZQ,Option.some.injEq]at h;obtain⟨y,_,ys,bRU,rfl⟩:=h;simp[Bf bRU]
theorem aGJ(h:jT E X w0 ρ al fr hp a w)(hd:kG E.nt o=true)(hT:qA P E.T){t:TypeId}{parts:Array (Nat×Operand)}(ho:o.op=.build t parts)(he:sV E id o (evA E fr) hp=some (x,u)):lI P E X w0 al fr hp a w o id x u:=by
 have fin:∀(pE:Array Value) cs u,(execOp a.eval o).run P w=.ok (.value (.agg pE)) w->Cons u->mB (XO X ρ (applyUps u hp)) w cs pE.toList->lI P E X w0 al fr hp a w o id (.v (.agg cs)) u:=by
  intro pE cs u iC hu Jr;exact⟨ρ,.agg pE,w,.inl iC,((h.cons hu).more id).pure hd ⟨pE,rfl,Jr⟩ (by simp[refs,refsV])⟩
 have hex:∀r,(Instr.build t (parts.map fun p=>(p.1,a.eval p.2))).run P w=.ok r w->(execOp a.eval o).run P w=.ok (.value r) w:=by
  intro r hr;unfold execOp;rw[ho];simp only[Sem.run_bind];rw[hr];rfl
 unfold sV effK at he;rw[ho]at he;simp only at he;split at he
 ·rename_i size bytes zero fs yQ;have ht:=hT t _ yQ;obtain⟨i,hi,_,_,z,hz,Sw⟩:=ht.i;obtain⟨d,wR,fields,rfl,bJW,hf⟩:=ht.d;rw[nW]at he;obtain⟨⟨cs,u2⟩,Ww,he⟩:=Option.bind_eq_some_iff.1 he;cases he;obtain⟨hu,pE,h1,h2,h3⟩:=zH h _ parts.toList _ [] z.cells cs u2 (fun p hp=>by cases hp) (by rw[Sw];exact Vf ht.zo) Ww;refine fin pE cs u2 (hex _ ?_) hu h2;obtain⟨xC,Zu,bSX⟩:∃xC:List (Nat×Nat),fields.toList.mapM (fun f=>(P.info? f.type).map fun i=>(f.offset,i.size))=some xC/\∀(k:Nat) (p:Nat×Nat),xC[k]?=some p->(fs[k]?).map (fun(f:Nat×Nat×Bool)=>(f.1,f.2.1))=some p:=by
   have:∀(l:List Field) (s:Nat),(∀(k:Nat) (f:Field),l[k]?=some f->∃fi fd,P.info? f.type=some fi/\P.underlying f.type=some fd/\fs[s+k]?=some (f.offset,fi.size,tS fd)) ->
     ∃xC:List (Nat×Nat),l.mapM (fun f=>(P.info? f.type).map fun i=>(f.offset,i.size))=some xC/\∀(k:Nat) (p:Nat×Nat),xC[k]?=some p->(fs[s+k]?).map (fun(f:Nat×Nat×Bool)=>(f.1,f.2.1))=some p:=by
    intro l
    induction l with
    |nil=>intro s _;exact⟨[],rfl,fun k p hk=>by simp at hk⟩
    |cons f l ih =>
     intro s hl;obtain⟨fi,fd,e1,e2,e3⟩:=hl 0 f rfl;obtain⟨pl,p1,p2⟩:=ih (s+1) (fun k g hk=>by have:=hl (k+1) g (by simpa using hk);rwa [show s+(k+1)=s+1+k by omega]at this);refine⟨(f.offset,fi.size) :: pl,by simp[bYE,e1,p1],fun k p hk=>?_⟩
     match k with
     |0=>simp at hk;subst hk;simp at e3;simp[e3]
     |k+1=>simp at hk;have:=p2 k p hk;rwa [show s+1+k=s+(k+1) by omega]at this
   obtain⟨pl,p1,p2⟩:=this fields.toList 0 (fun k f hk=>by rw[bXL];exact hf k f (by simpa using hk));exact⟨pl,p1,fun k p hk=>by have:=p2 k p hk;rwa [bXL]at this⟩
  refine run_build w t _ pE ?_;unfold Program.built;simp only[hi,wR,hz,Zu,Array.toList_map];have Qu:∀(ps:List (Nat×Value)) (arr:Array Value) r,Instr.fill (fun i=>(fs[i]?).map fun(f:Nat×Nat×Bool)=>(f.1,f.2.1)) arr ps=some r->Instr.fill (xC.toArray[·]?) arr ps=some r:=by
   intro ps
   induction ps with
   |nil=>intro arr r h;exact h
   |cons p ps ih =>
    intro arr r h;obtain⟨i,v⟩:=p;unfold Instr.fill at h ⊢;cases hq:xC[i]? with
    |none =>
     have h1:xC.length=fields.size:=by simpa using (Bf Zu)
     have h2:fs[i]?=none:=bYZ (by have:=List.getElem?_eq_none_iff.1 hq;omega);simp[h2]at h
    |some q =>
     have:=bSX i q hq;simp only[this]at h;have bST:xC.toArray[i]?=some q:=by simp[hq]
     simp only[bST];obtain⟨o1,s1⟩:=q;simp only at h ⊢;split at h
     ·cases h
     ·rename_i hc;rw[if_neg hc];exact ih _ _ h
  have e:parts.toList.map (fun p=>(p.1,a.eval p.2))=parts.toList.map (fun x=>(x.fst,a.eval x.snd)):=rfl;rw[e]at h1;exact Qu _ _ _ h1
 ·rename_i size bytes zero len wT g yQ;have ht:=hT t _ yQ;obtain⟨i,hi,_,_,z,hz,Sw⟩:=ht.i;obtain⟨d,wR,e,ei,ed,rfl,aOW,aUO,_,_⟩:=ht.d;rw[nW]at he;obtain⟨⟨cs,u2⟩,Ww,he⟩:=Option.bind_eq_some_iff.1 he;cases he;obtain⟨hu,pE,h1,h2,h3⟩:=zH h _ parts.toList _ [] z.cells cs u2 (fun p hp=>by cases hp) (by rw[Sw];exact Vf ht.zo) Ww;refine fin pE cs u2 (hex _ ?_) hu h2;refine run_build w t _ pE ?_;unfold Program.built;simp only[hi,wR,hz,aOW,Array.toList_map];subst aUO;exact h1
 ·cases he
end
end AI
namespace AI
open Go Go.RowKit
section
variable {P:Program} {E:Env} {X:Nat->Prop} {w0:Old} {ρ:Nat->Nat} {al:Nat->Prop} {fr:Nat->A} {hp:Nat->Option mI} {a:Act} {w:World} {o:Oper} {id:Nat} {x:A} {u:tH}
theorem Jn(w:World)(t e:TypeId)(len:Nat)(parts:Array (Nat×Value))(cells:Array Value)(ie:TypeInfo)(z:Value)
  (hu:P.underlying t=some (.slice e)) (bOG:P.info? e=some ie) (hz:ie.zero=some z) (aWV:¬len*ie.size>2^24)
  (h:Instr.fill (fun i=>some (i*ie.size,ie.size)) ((Array.range (len*ie.size)).map (z.cells[·%z.cells.size]!)) parts.toList=some cells) :
  (Instr.buildSlice t len parts).run P w=.ok (.slice (some ⟨w.heap.size,0,none⟩) len len) (w.alloc (.cells cells e)):=by
 by_cases qJ:len*ie.size=0
 ·rw[qJ]at h;have hr:∀f:Nat->Value,(Array.range 0).map f=#[]:=fun f=>by rw[show Array.range 0=(#[]:Array Nat)from by simp];simp
  rw[hr]at h;simp[Instr.buildSlice,run_underlying hu,sizeOf,typeInfo,bOG,qJ,hr,h,newRow]
 ·simp[Instr.buildSlice,run_underlying hu,sizeOf,typeInfo,zeroValue,bOG,hz,aWV,qJ,h,newRow]
theorem Gq{k:IntKind}:∀{cs:List S} {ns:List Int},allInts k cs=some ns->cs=ns.map fun n=>.sc (.int k n)
 | [],ns,h=>by cases h;rfl
 | .sc (.int k' n) :: r,ns,h=>by
  simp only[allInts]at h;split at h
  ·rename_i hk;subst hk;obtain⟨ms,aRB,rfl⟩:=Option.map_eq_some_iff.1 h;rw[Gq aRB];rfl
  ·cases h
 | .ints _ _ :: _,_,h=>by cases h
 | .bot :: _,_,h=>by cases h
 | .sc (.bool _) :: _,_,h=>by cases h
 | .sc (.float _ _) :: _,_,h=>by cases h
 | .sc (.complex _ _ _) :: _,_,h=>by cases h
 | .sc (.string _) :: _,_,h=>by cases h
 | .sc (.pointer _) :: _,_,h=>by cases h
 | .sc (.slice _ _ _) :: _,_,h=>by cases h
 | .sc (.map _) :: _,_,h=>by cases h
 | .sc (.chan _) :: _,_,h=>by cases h
 | .sc (.func _ _ _) :: _,_,h=>by cases h
 | .sc .nilFunc :: _,_,h=>by cases h
 | .sc (.iface _ _) :: _,_,h=>by cases h
 | .sc .nilIface :: _,_,h=>by cases h
 | .sc (.agg _) :: _,_,h=>by cases h
 | .sc (.tuple _) :: _,_,h=>by cases h
theorem Po{Y:Nat->Prop}{k:IntKind}{ns:List Int}{arr:Array Value}(h:mB Y w (ns.map fun n=>.sc (.int k n)) arr.toList):Qe Y w (.ints k ns) arr/\arr.size=ns.length:=by
 have hl:ns.length=arr.size:=by have:=h.1;simpa using this
 refine⟨⟨by omega,fun i n hn=>?_⟩,hl.symm⟩;obtain⟨v,hv⟩:=cK (l:=arr.toList) (i:=i) (by have:=bJ hn;simp;omega);have:=(h.2 i (.sc (.int k n)) v (by simp[hn]) hv).1;subst this;simpa using hv
theorem Zo{n:Nat}(h:n<=16777216):n<=maxLen:=by unfold maxLen;omega
theorem Nm(h:jT E X w0 ρ al fr hp a w)(hd:kG E.nt o=true)(hT:qA P E.T)(An:∀j,j<8->¬al (id+j)){t:TypeId}{len:Nat}{parts:Array (Nat×Operand)}(ho:o.op=.buildSlice t len parts)(he:sV E id o (evA E fr) hp=some (x,u)):lI P E X w0 al fr hp a w o id x u:=by
 unfold sV effK at he;rw[ho]at he;simp only at he;split at he
 ·rename_i s0 b0 z0 e yQ;have ht:=hT t _ yQ;obtain⟨d,wR,Fj⟩:=ht.d;have Fj:d=.slice e:=Fj;subst Fj;split at he
  ·rename_i size bytes zero kind Wl;have Mw:=hT e _ Wl;obtain⟨ie,hi,uR,_,z,hz,Sw⟩:=Mw.i;have uR:ie.size=size:=uR;have Sw:z.cells.toList=zero:=Sw;have bNB:zero.length=size:=Mw.zl;split at he
   ·rename_i Nf;obtain⟨aWX,aHO⟩:=Nf;rw[nW]at he;obtain⟨⟨cs,u2⟩,Ww,he⟩:=Option.bind_eq_some_iff.1 he;simp only at he;have bDR:mB (XO X ρ (applyUps [] hp)) w ((bYR (len*size)).map fun i=>S.sc (zero.getD (i%size) undef)) ((Array.range (len*ie.size)).map (z.cells[·%z.cells.size]!)).toList:=by
     refine⟨by simp[uR],fun i s v hs hv=>?_⟩;have hi:=bJ hs;simp at hi;have aTZ:z.cells.size=size:=by rw[<-bNB,<-Sw];simp
     have hm:i%size<zero.length:=by rw[bNB];exact Nat.mod_lt _ aHO
     simp[hi]at hs;subst hs;have aXG:i%size<z.cells.size:=by rw[aTZ];exact Nat.mod_lt _ aHO
     simp[uR,hi,aTZ]at hv;have e1:z.cells[i%size]! = zero[i%size]:=by
      rw[getElem!_pos z.cells (i%size) aXG];simp[<-Sw]
     rw[e1]at hv;subst hv;have e2:zero[i%size]?.getD undef=zero[i%size]:=by simp[hm]
     rw[e2];exact⟨rfl,Mw.zo _ (List.getElem_mem hm)⟩
    obtain⟨hu,pE,h1,h2,h3⟩:=zH h _ parts.toList _ [] _ cs u2 (fun p hp=>by cases hp) bDR Ww;have h3:pE.size=len*size:=by rw[h3];simp[uR]
    have iC:=Jn (P:=P) w t e len (parts.map fun p=>(p.1,a.eval p.2)) pE ie z wR hi hz (by rw[uR];omega) (by rw[Array.toList_map];subst uR;exact h1);have hex:(execOp a.eval o).run P w=.ok (.value (.slice (some ⟨w.heap.size,0,none⟩) len len)) (w.alloc (.cells pE e)):=by
     unfold execOp;rw[ho];simp only[Sem.run_bind];rw[iC];rfl
    have h0:=h.cons hu;have fin:∀c,Qe (XO X ρ (applyUps u2 hp)) w c pE->(∀k ns,c=.ints k ns->len=ns.length/\pE.size=len) ->
      lI P E X w0 al fr hp a w o id (.v (.one (.buf id len))) (u2 ++ [(id,some ⟨e,c⟩)]):=by
     intro c hc hints;have h1:=h0.alloc (id:=id) (al':=qU al id) (An 0 (by omega)) (fun _ h=>.inl h) (vK id) e c pE hc;unfold lI;rw[mH];refine⟨_,_,_,.inl hex,h1.pure hd (x:=.v (.one (.buf id len))) ?_ ?_⟩
     ·refine⟨len,by rw[dS],bXK _,fun blk k ns hb hk=>?_⟩;rw[dS]at hb;cases hb;obtain⟨h5,h6⟩:=hints k ns hk;refine⟨h5,Zo ?_,?_⟩
      ·have:len<=len*size:=Nat.le_mul_of_pos_right _ aHO;omega
      ·rw[dS,qT (Gh w _)];omega
     ·intro i hi;simp only[refs,refsV,refsL,bYA]at hi;subst hi;exact vK i
    split at he
    ·split at he <;> cases he;rename_i k ns En;have Nd:=Gq En;rw[Nd]at h2;obtain⟨h5,h6⟩:=Po h2;refine fin _ h5 (fun k1 aDG e1=>?_);cases e1;simp at h3;exact⟨by omega,h3⟩
    ·cases he;exact fin _ h2.cells (fun k ns e1=>by cases e1)
   ·cases he
  ·cases he
 ·cases he
theorem aGE{X:Nat->Prop}{w:World}(hT:qA P E.T){t:TypeId}{cs ds:List S}{q:Bool}(he:eqAgg (E.T t) cs ds=some q){xs ys:Array Value}(hx:mB X w cs xs.toList)(hy:mB X w ds ys.toList) :
  (∀y z,(do eqGuard .eql t y z (.agg xs) (.agg ys);binOp .eql t (.agg xs) (.agg ys):Sem Value).run P w=.ok (.bool q) w)/\(∀y z,(do eqGuard .neq t y z (.agg xs) (.agg ys);binOp .neq t (.agg xs) (.agg ys):Sem Value).run P w=.ok (.bool (!q)) w):=by
 unfold eqAgg at he;split at he
 ·rename_i ti yQ;split at he
  ·rename_i ks bTH;have bPJ:∀{cs:List S} {xs:Array Value},mB X w cs xs.toList->∀(j:Nat) (c:Value),cs[j]?=some (.sc c)->xs[j]?=some c:=by
    intro cs xs h j c hc;have jM:j<xs.toList.length:=by rw[<-h.1];exact(List.getElem?_eq_some_iff.1 hc).1
    have hv:xs.toList[j]?=some xs.toList[j]:=bXY jM;have:=(h.2 j _ _ hc hv).1;rw[this]at hv;simpa using hv
   exact aYP ((hT t ti yQ).eq ks bTH) he (bPJ hx) (bPJ hy)
  ·cases he
 ·cases he
theorem aGK(h:jT E X w0 ρ al fr hp a w)(hd:kG E.nt o=true)(hT:qA P E.T){op:BinOp}{t t':TypeId}{y z:Operand}(ho:o.op=.binOp op t y z t')(he:sV E id o (evA E fr) hp=some (x,u)):lI P E X w0 al fr hp a w o id x u:=by
 have hy:=(h.ev y).1;have hz:=(h.ev z).1;unfold sV effK at he;rw[ho]at he;simp only at he;split at he
 ·rename_i p q Hw Sz;rw[Hw]at hy;rw[Sz]at hz;have e1:a.eval y=p:=hy.1;have e2:a.eval z=q:=hz.1;cases hb:boolT (E.T t) p with
  |false=>rw[hb]at he;cases he
  |true =>
   rw[hb]at he;simp only[cond_true]at he;rw[Ih]at he;obtain⟨r,hr,he⟩:=Option.bind_eq_some_iff.1 he;cases he;obtain⟨h1,h2⟩:=aGT (P:=P) op t y z p q r w (fun b bSY=>by
    subst bSY;unfold boolT at hb;simp only at hb;split at hb
    ·rename_i s0 b0 z0 yQ;obtain⟨d,bGK,bAY⟩:=(hT t _ yQ).d;have bAY:d=.bool:=bAY;subst bAY;exact bGK
    ·cases hb) hr
   refine dC h hd (v:=r) ?_ ⟨rfl,h2⟩ (by simp[oC]);unfold execOp;rw[ho];simp only[e1,e2];rw[Sem.run_bind,h1];rfl
 ·rename_i cs ds Hw Sz;rw[Hw]at hy;rw[Sz]at hz;cases hb:eqAgg (E.T t) cs ds with
  |none=>rw[hb]at he;cases he
  |some b =>
   rw[hb]at he;simp only at he;obtain⟨xs,e1,rx⟩:∃arr,a.eval y=.agg arr/\_:=hy;obtain⟨ys,e2,ry⟩:∃arr,a.eval z=.agg arr/\_:=hz;have iC:=aGE (P:=P) hT hb rx ry;cases op <;> simp only at he <;> cases he
   ·refine dC h hd (v:=.bool b) ?_ ⟨rfl,rfl⟩ (by simp[oC]);unfold execOp;rw[ho];simp only[e1,e2];rw[Sem.run_bind,iC.1];rfl
   ·refine dC h hd (v:=.bool (!b)) ?_ ⟨rfl,rfl⟩ (by simp[oC]);unfold execOp;rw[ho];simp only[e1,e2];rw[Sem.run_bind,iC.2];rfl
 ·cases he
theorem aMB(h:jT E X w0 ρ al fr hp a w)(hd:kG E.nt o=true){op:UnOp}{t:TypeId}{y:Operand}(ho:o.op=.unOp op t y)(he:sV E id o (evA E fr) hp=some (x,u)):lI P E X w0 al fr hp a w o id x u:=by
 have hy:=(h.ev y).1;unfold sV effK at he;rw[ho]at he;simp only at he;split at he
 ·rename_i p Hw;rw[Hw]at hy;have e1:a.eval y=p:=hy.1;rw[Li]at he;obtain⟨r,hr,he⟩:=Option.bind_eq_some_iff.1 he;cases he;obtain⟨h1,h2⟩:=aIE (P:=P) op p r w hr;refine dC h hd (v:=r) ?_ ⟨rfl,h2⟩ (by simp[oC]);unfold execOp;rw[ho];simp only[e1,Sem.run_bind,h1,Result.andThen_ok,Sem.run_pure]
 ·cases he
theorem aAK{s d:TypeId}{ds dd:TypeDesc}{k:TK}(h1:P.underlying s=some ds)(h2:P.underlying d=some dd)(h3:Ox P k dd){p r:Value}(h:convK k p some=some r) :
  (convert s d p).run P w=.ok r w/\r.oneCell'=true:=by
 unfold convert;simp only[Sem.run_bind,run_underlying h1,run_underlying h2,Result.andThen_ok];unfold convK at h;split at h
 ·have h3:dd=.int _:=h3;subst h3;cases h;exact⟨rfl,rfl⟩
 ·have h3:dd=.float _:=h3;subst h3;cases h;exact⟨rfl,rfl⟩
 ·have h3:dd=.int _:=h3;subst h3;obtain⟨n,hn,h⟩:=Option.bind_eq_some_iff.1 h;split at h <;> cases h;rename_i hb;refine⟨?_,rfl⟩;simp[Conv.floatToInt,hn,hb]
 ·have h3:dd=.float _:=h3;subst h3;split at h <;> cases h;rename_i hs;refine⟨?_,rfl⟩;simp[Conv.floatToFloat,hs]
 ·cases h
theorem Xk(h:jT E X w0 ρ al fr hp a w)(hd:kG E.nt o=true)(hT:qA P E.T){s d:TypeId}{y:Operand}(ho:o.op=.convert s d y)(he:sV E id o (evA E fr) hp=some (x,u)):lI P E X w0 al fr hp a w o id x u:=by
 have hy:=(h.ev y).1;unfold sV effK at he;rw[ho]at he;simp only at he;split at he
 ·rename_i t1 ti p hs wR Hw;rw[Hw]at hy;have e1:a.eval y=p:=hy.1;rw[Et]at he;obtain⟨r,hr,he⟩:=Option.bind_eq_some_iff.1 he;cases he;obtain⟨ds,bAV,_⟩:=(hT s _ hs).d;obtain⟨dd,aLF,hk⟩:=(hT d _ wR).d;obtain⟨h1,h2⟩:=aAK (P:=P) (w:=w) bAV aLF hk hr;refine dC h hd (v:=r) ?_ ⟨rfl,h2⟩ (by simp[oC]);unfold execOp;rw[ho];simp only[e1,Sem.run_bind,h1,Result.andThen_ok,Sem.run_pure]
 ·cases he
theorem Xj(h:jT E X w0 ρ al fr hp a w)(hd:kG E.nt o=true){y:Operand}{i:Nat}(ho:o.op=.extract y i)(he:sV E id o (evA E fr) hp=some (x,u)):lI P E X w0 al fr hp a w o id x u:=by
 have hy:=h.ev y;unfold sV effK at he;rw[ho]at he;simp only at he;split at he
 ·rename_i xs bRW;split at he <;> cases he;rename_i v hv;rw[bRW]at hy;obtain⟨⟨arr,ha,hl,hr⟩,tE⟩:=hy;obtain⟨q,hq⟩:∃q,arr[i]?=some q:=by
   have:=bJ hv;exact⟨arr[i],Array.getElem?_eq_getElem (by omega)⟩
  refine dC h hd (v:=q) ?_ (hr i v q hv hq) (fun j hj=>tE j (List.mem_flatMap.2 ⟨v,bXQ hv,hj⟩));unfold execOp;rw[ho];simp[Instr.extract,ha,hq]
 ·cases he
theorem tC{y:Operand}{k:IntKind}{n:Int}(h:jT E X w0 ρ al fr hp a w)(he:intArg (evA E fr y)=some (k,n)):a.eval y=.int k n:=by
 have hy:=(h.ev y).1;unfold intArg at he;split at he
 ·rename_i k' n' jO;cases he;rw[jO]at hy;exact hy.1
 ·cases he
theorem Pw(h:jT E X w0 ρ al fr hp a w)(hd:kG E.nt o=true)(hT:qA P E.T){t:TypeId}{y:Operand}{f:Nat}(ho:o.op=.fieldAddr t y f)(he:sV E id o (evA E fr) hp=some (x,u)):lI P E X w0 al fr hp a w o id x u:=by
 have hy:=h.ev y;unfold sV effK at he;rw[ho]at he;simp only at he;split at he
 ·rename_i s0 b0 z0 fs yQ;obtain⟨d,wR,fields,rfl,bJW,hf⟩:=(hT t _ yQ).d;have iC:∀b off o1 size g,fs[f]?=some (o1,size,g)->0<size->a.eval y=.pointer (some ⟨b,off,none⟩)->(execOp a.eval o).run P w=.ok (.value (.pointer (some ⟨b,off+o1,none⟩))) w:=by
   intro b off o1 size g aHU qJ jO;have jM:=bJ aHU;obtain⟨fi,fd,e1,e2,e3⟩:=hf f fields[f] (Array.getElem?_eq_getElem (by omega));rw[aHU]at e3;cases e3;unfold execOp;rw[ho];have bJX:fields[f]?=some fields[f]:=Array.getElem?_eq_getElem (by omega);simp only[jO,Instr.fieldAt,Instr.sureAddr,Sem.run_bind,run_underlying wR,Result.andThen_ok,bJX,Sem.run_pure,fieldPlace,sizeOf,typeInfo,run_program,e1];rw[bG];simp[oF]
  split at he
  ·rename_i off size g i o1 aHU jO;split at he <;> cases he;rename_i qJ;rw[jO]at hy;exact dC h hd (iC _ _ _ _ _ aHU qJ hy.1) rfl hy.2
  ·rename_i off size g cs aHU jO;split at he <;> cases he;rename_i qJ;rw[jO]at hy;obtain⟨⟨b,aWC,hb,hc⟩,_⟩:=hy;refine dC h hd (iC _ _ _ _ _ aHU qJ hb) ⟨b,aWC+off,rfl,fun i s hs=>?_⟩ (by simp[refs,refsV,refsL]);rw[bXV]at hs;have:=hc (off+i) s hs;rwa [show aWC+(off+i)=aWC+off+i by omega]at this
  ·cases he
 ·cases he
theorem Me{t:TypeId}{fi:TypeInfo}{fd:TypeDesc}(h1:P.info? t=some fi)(h2:P.underlying t=some fd){Y:Nat->Prop}{cs:List S}{arr:Array Value}(hr:mB Y w cs arr.toList){off:Nat}{v:V}
  (he:(bif tS fd then(if off+fi.size<=cs.length then some (V.agg ((cs.drop off).take fi.size))else none)else(cs[off]?).map fun c=>V.one (.s c))=some v) :
  ∃q,(part t arr off).run P w=.ok q w/\Gs ρ hp Y w v q/\refsV v=[]:=by
 have hl:cs.length=arr.size:=by simpa using hr.1
 have aAA:(isAgg t).run P w=.ok (tS fd) w:=by
  unfold isAgg;rw[Sem.run_bind,run_underlying h2];cases fd <;> rfl
 unfold part;rw[Sem.run_bind,aAA,Result.andThen_ok];cases hg:tS fd with
 |true =>
  rw[hg]at he;simp only[cond_true]at he;split at he <;> cases he;rename_i hle;refine⟨_,by rw[if_pos rfl,Sem.run_bind];simp only[sizeOf,typeInfo,Sem.run_bind,run_program,Result.andThen_ok,h1,Sem.run_pure];rfl,⟨_,rfl,?_⟩,rfl⟩;refine⟨by simp;omega,fun i s q hs hq=>?_⟩;have hi:i<fi.size:=by have:=bJ hs;simp at this;omega
  rw[bXU hi,bXV]at hs;refine hr.2 (off+i) s q hs ?_;have jM:=bJ hs;simp at hq;rw[bXU (by omega),bXV]at hq;exact hq
 |false =>
  rw[hg]at he;simp only[cond_false]at he;obtain⟨c,hc,rfl⟩:=Option.map_eq_some_iff.1 he;have jM:=bJ hc;have hq:arr[off]?=some arr[off]:=Array.getElem?_eq_getElem (by omega);refine⟨arr[off],by simp[hq],hr.2 off c _ hc (by simp[<-hq]),rfl⟩
theorem aGI(h:jT E X w0 ρ al fr hp a w)(hd:kG E.nt o=true)(hT:qA P E.T){t:TypeId}{y:Operand}{f:Nat}(ho:o.op=.field t y f)(he:sV E id o (evA E fr) hp=some (x,u)):lI P E X w0 al fr hp a w o id x u:=by
 have hy:=(h.ev y).1;unfold sV effK at he;rw[ho]at he;simp only at he;split at he
 ·rename_i s0 b0 z0 fs yQ;obtain⟨d,wR,fields,rfl,bJW,hf⟩:=(hT t _ yQ).d;split at he
  ·rename_i off size g cs aHU jO;split at he <;> cases he;rename_i v hv;rw[jO]at hy;obtain⟨arr,ha,hr⟩:=hy;have jM:=bJ aHU;obtain⟨fi,fd,e1,e2,e3⟩:=hf f fields[f] (Array.getElem?_eq_getElem (by omega));rw[aHU]at e3;cases e3;obtain⟨q,Sz,aXA,bJB⟩:=Me (P:=P) (ρ:=ρ) (hp:=hp) e1 e2 hr hv;refine dC h hd (v:=q) ?_ aXA (by simp[refs,bJB]);have bJX:fields[f]?=some fields[f]:=Array.getElem?_eq_getElem (by omega);unfold execOp;rw[ho];simp only[Instr.field,Sem.run_bind,run_underlying wR,Result.andThen_ok,bJX,ha,asAgg,Sem.run_pure,Sz]
  ·cases he
 ·cases he
theorem aGH(h:jT E X w0 ρ al fr hp a w)(hd:kG E.nt o=true)(hT:qA P E.T){t:TypeId}{y z:Operand}(ho:o.op=.index t y z)(he:sV E id o (evA E fr) hp=some (x,u)):lI P E X w0 al fr hp a w o id x u:=by
 have hy:=(h.ev y).1;unfold sV effK at he;rw[ho]at he;simp only at he;split at he
 ·rename_i s0 b0 z0 len wT g cs k n yQ jO bDP;have hz:=tC h bDP;split at he
  ·rename_i jM;rw[aQV cs jM]at he;split at he <;> cases he;rename_i v hv;rw[jO]at hy;obtain⟨arr,ha,hr⟩:=hy;obtain⟨d,wR,e,ei,ed,rfl,aOW,aUO,bOL,bOK⟩:=(hT t _ yQ).d;subst aUO;subst bOK;obtain⟨q,Sz,aXA,bJB⟩:=Me (P:=P) (ρ:=ρ) (hp:=hp) aOW bOL hr hv;refine dC h hd (v:=q) ?_ aXA (by simp[refs,bJB]);unfold execOp;rw[ho];simp only[Instr.index,Sem.run_bind,hz,asIntOf,Sem.run_pure,run_underlying wR,Result.andThen_ok,ha];rw[if_pos jM];simp only[sizeOf,typeInfo,Sem.run_bind,run_program,Result.andThen_ok,aOW,Sem.run_pure,Sz]
  ·cases he
 ·rename_i s0 b0 z0 s k n yQ jO bDP;have hz:=tC h bDP;split at he
  ·rename_i jM;cases he;rw[jO]at hy;obtain⟨ha,_⟩:=hy;obtain⟨d,wR,rfl⟩:=(hT t _ yQ).d;refine dC h hd (v:=.int .u8 (Iu s n)) ?_ ⟨rfl,rfl⟩ (by intro i hi;cases hi);unfold execOp;rw[ho];have bDL:n.toNat<s.size:=by omega
   have hs:(if 0<=n then s[n.toNat]? else none)=some s[n.toNat]:=by
    rw[if_pos jM.1];exact getElem?_pos s n.toNat bDL
   have aFW:Iu s n=(s[n.toNat].toNat:Int):=by
    unfold Iu;rw[getElem?_pos s n.toNat bDL]
   simp only[Instr.index,Sem.run_bind,hz,asIntOf,Sem.run_pure,run_underlying wR,Result.andThen_ok,ha,hs,aFW]
  ·cases he
 ·cases he
end
end AI
namespace AI
open Go Go.RowKit
section
variable {P:Program} {E:Env} {X:Nat->Prop} {w0:Old} {ρ:Nat->Nat} {al:Nat->Prop} {fr:Nat->A} {hp:Nat->Option mI} {a:Act} {w:World} {o:Oper} {id:Nat} {x:A} {u:tH}
theorem Iv{R:Type}{n:Int}{K:Nat->Option R}{r:R}:∀{m j:Nat},splitN n m j K=some r->∃i,j<=i/\i<j+m/\n=(i:Int)/\K i=some r
 |0,_,h=>by cases h
 |m+1,j,h=>by
  unfold splitN at h
  by_cases hc:n=(j:Int)
  ·rw[decide_eq_true hc]at h;exact⟨j,bXK _,by omega,hc,h⟩
  ·rw[decide_eq_false hc]at h;obtain⟨i,h1,h2,h3,h4⟩:=Iv (m:=m) (j:=j+1) h;exact⟨i,by omega,by omega,h3,h4⟩
theorem wrap_small{n:Int}(h0:0<=n)(h1:n<=room):i64.wrap n=n:=by
 unfold room at h1;unfold IntKind.wrap;simp only[IntKind.bits,IntKind.signed];have e:n%(2^64:Int)=n:=by omega
 simp only[e];rw[if_neg (by simp;omega)]
theorem run_make(w:World)(t e:TypeId)(i:TypeInfo)(z:Value)(hu:P.underlying t=some (.slice e))(hi:P.info? e=some i)(hz:i.zero=some z)(kl kc:IntKind)(l c:Int)(h0:0<=l)(h1:l<=c)(h2:c<=room)(hb:i.bytes<=8) :
  (Instr.makeSlice t (.int kl l) (.int kc c)).run P w=.ok (.slice (some ⟨w.heap.size,0,none⟩) l.toNat c.toNat) (w.alloc (.cells ((Array.range (c.toNat*i.size)).map (z.cells[·%z.cells.size]!)) e)):=by
 have e1:i64.wrap l=l:=wrap_small h0 (by omega);have e2:i64.wrap c=c:=wrap_small (by omega) h2;have hbc:¬((i.bytes:Int)*c>2^48):=by
  have:(i.bytes:Int)*c<=8*c:=bZS (by omega) (by omega);unfold room at h2;omega
 have aLK:¬((i.bytes:Int)*l>2^48):=by
  have:(i.bytes:Int)*l<=8*l:=bZS (by omega) (by omega);unfold room at h2;omega
 unfold Instr.makeSlice;simp only[Sem.run_bind,run_underlying hu,Result.andThen_ok,asInt,asIntOf,Sem.run_pure,typeInfo,run_program,hi,e1,e2];rw[if_neg (by simp;omega)];have uR:∀w:World,(sizeOf e).run P w=.ok i.size w:=fun w=>by simp[sizeOf,typeInfo,hi]
 have aTY:∀w:World,(zeroValue e).run P w=.ok z w:=fun w=>by simp[zeroValue,typeInfo,hi,hz]
 simp only[Sem.run_bind,run_askRoom,Result.andThen_ok,uR]
 by_cases hc:c.toNat*i.size=0
 ·rw[if_pos hc];have e0:∀(f g:Nat->Value),Array.map f (Array.range 0)=Array.map g (Array.range 0):=fun f g=>by simp[Array.range]
  simp only[Sem.run_bind,Sem.run_pure,Result.andThen_ok,hc];rw[e0 _ (fun x=>z.cells[x%z.cells.size]!)];rfl
 ·rw[if_neg hc];simp only[Sem.run_bind,aTY,Sem.run_pure,Result.andThen_ok];rfl
theorem Pu (h : jT E X w0 ρ al fr hp a w) (hd : kG E.nt o = true) (hT : qA P E.T) (An : ∀ j, j < 8 → ¬ al (id + j)) {t : TypeId} {y z : Operand} (ho : o.op = .makeSlice t y z) (he : sV E id o (evA E fr) hp = some (x, u)) : lI P E X w0 al fr hp a w o id x u := by
  unfold sV effK at he
  rw [ho] at he
  simp only at he
  split at he
  · rename_i s0 b0 z0 e k1 l k2 c yQ bJI bGC
    have hy := tC h bJI
    have hz := tC h bGC
    have ht := hT t _ yQ
    obtain ⟨d, wR, Fj⟩ := ht.d
    have Fj : d = .slice e := Fj
    subst Fj
    split at he
    · rename_i bytes k0 z0' k Wl
      have Mw := hT e _ Wl
      obtain ⟨i, hi, uR, aXV, zv, aTY, Sw⟩ := Mw.i
      split at he
      · rename_i Ng
        split at he <;> cases he
        rename_i Nf
        obtain ⟨h0, h1, h2⟩ := Nf
        have uR : i.size = 1 := uR
        have aXV : i.bytes = bytes := aXV
        have iC := run_make (P := P) w t e i zv wR hi aTY k1 k2 l c h0 h1 h2 (by omega)
        obtain ⟨_, _, rfl, rfl⟩ := Ng
        have Sw : zv.cells.toList = [.int k0 0] := Sw
        have aTZ : zv.cells.size = 1 := by have : zv.cells.toList.length = 1 := by rw [Sw]; rfl
                                           simpa using this
        have aWM : zv.cells[0]! = .int k0 0 := by
          rw [getElem!_pos zv.cells 0 (by omega)]
          have : zv.cells.toList[0]? = some (.int k0 0) := by rw [Sw]; rfl
          simpa [Array.getElem?_eq_getElem (show 0 < zv.cells.size by omega)] using this
        have h3 := h.alloc (id := id) (al' := qU al id) (An 0 (by omega)) (fun _ h => .inl h) (vK id) e (.ints k0 (bZK l.toNat 0)) ((Array.range (c.toNat * i.size)).map (zv.cells[· % zv.cells.size]!)) (by
          refine ⟨by simp [uR]; omega, fun j n hn => ?_⟩
          have hj := bJ hn
          simp at hj
          rw [List.getElem?_replicate, if_pos (by omega)] at hn
          cases hn
          have bTO : j < c.toNat := by omega
          simp only [aTZ, Nat.mod_one, aWM, uR, bYB]
          simp [bTO])
        refine ⟨_, .slice (some ⟨w.heap.size, 0, none⟩) l.toNat c.toNat, _, .inl ?_, h3.pure hd (x := .v (.one (.buf id l.toNat))) ?_ ?_⟩
        · unfold execOp
          rw [ho]
          simp only [hy, hz, Sem.run_bind, iC, Result.andThen_ok, Sem.run_pure]
        · refine ⟨c.toNat, by rw [dS], by omega, fun blk k' ns hb hk => ?_⟩
          rw [dS] at hb
          cases hb
          cases hk
          refine ⟨by simp, by unfold room at h2; unfold maxLen; omega, ?_⟩
          rw [dS, qT (Gh w _)]
          simp [uR]
        · intro i hi
          simp only [refs, refsV, refsL, bYA] at hi
          subst hi
          exact vK i
      · cases he
    · cases he
  · cases he
theorem yF(h:jT E X w0 ρ al fr hp a w){d l:Int}{y:Option Operand}(he:bndA d (y.map (evA E fr))=some l):(y=none/\l=d)\/∃z k,y=some z/\a.eval z=.int k l:=by
 cases y with
 |none=>cases he;exact .inl ⟨rfl,rfl⟩
 |some z =>
  refine .inr ⟨z,?_⟩;have hz:=(h.ev z).1;simp only[bXW]at he;unfold bndA at he;split at he
  ·cases ‹some _=none›
  ·rename_i k n jO;cases he;have jO:evA E fr z=.v (.one (.s (.sc (.int k l)))):=Option.some.inj jO;rw[jO]at hz;exact⟨k,rfl,hz.1⟩
  ·cases he
theorem run_sliceBound(k:IntKind)(n:Int)(y:Nat)(c:BoundsCode)(h0:0<=n)(h1:n<=y):(Instr.sliceBound (.int k n) y c).run P w=.ok n.toNat w:=by
 unfold Instr.sliceBound;simp only[Sem.run_bind,asIntOf,Sem.run_pure,Result.andThen_ok];rw[if_pos ⟨h0,h1⟩];rfl
theorem Ze(len cap:Nat)(bAP:len<=cap)(lo hi mx:Option Operand)(h:jT E X w0 ρ al fr hp a w)
  {R:Type} {K:Nat->Nat->Option R} {r:R} (he:sliceK len (lo.map (evA E fr)) (hi.map (evA E fr)) (mx.map (evA E fr)) K=some r) :
  ∃l h' m,K l h'=some r/\l<=h'/\h'<=len/\h'<=m/\m<=cap/\(Instr.sliceBounds true len cap (lo.map a.eval) (hi.map a.eval) (mx.map a.eval)).run P w=.ok (l,h',m) w:=by
 unfold sliceK at he;split at he
 ·rename_i l h' hl hh hm;have bTA:mx=none:=by cases mx with
   |none=>rfl
   |some y=>cases hm
  subst bTA;split at he
  ·rename_i hc;obtain⟨c0,c1,c2⟩:=hc;refine⟨l.toNat,h'.toNat,cap,he,by omega,by omega,by omega,bXK _,?_⟩;unfold Instr.sliceBounds;rcases yF h hh with ⟨rfl,rfl⟩ |⟨yh,kh,rfl,bDN⟩
   ·rcases yF h hl with ⟨rfl,rfl⟩ |⟨yl,kl,rfl,aHR⟩
    ·rfl
    ·simp only[bZT,bXW,Sem.run_bind,Sem.run_pure,Result.andThen_ok,aHR,Option.isSome_none];rw[run_sliceBound kl l len _ c0 (by omega)];rfl
   ·simp only[bZT,bXW,Sem.run_bind,Sem.run_pure,Result.andThen_ok,bDN];rw[run_sliceBound kh h' cap _ (by omega) (by omega)];simp only[Result.andThen_ok];rcases yF h hl with ⟨rfl,rfl⟩ |⟨yl,kl,rfl,aHR⟩
    ·rfl
    ·simp only[bXW,aHR,Sem.run_bind];rw[run_sliceBound kl l h'.toNat _ c0 (by omega)];rfl
  ·cases he
 ·rename_i l h' mxa hl hh hm;split at he
  ·rename_i ya m bRV bNX;split at he
   ·rename_i hc;obtain⟨c0,c1,c2,c3⟩:=hc;obtain⟨ym,rfl,km,bJN⟩:∃ym,mx=some ym/\∃km,a.eval ym=.int km m:=by
     rw[<-hm]at bNX;rcases yF h bNX with ⟨rfl,_⟩ |⟨ym,km,rfl,bJN⟩
     ·cases hm
     ·exact⟨ym,rfl,km,bJN⟩
    obtain⟨yh,rfl,kh,bDN⟩:∃yh,hi=some yh/\∃kh,a.eval yh=.int kh h':=by
     rcases yF h hh with ⟨rfl,_⟩ |⟨yh,kh,rfl,bDN⟩
     ·cases bRV
     ·exact⟨yh,rfl,kh,bDN⟩
    refine⟨l.toNat,h'.toNat,m.toNat,he,by omega,by omega,by omega,by omega,?_⟩;unfold Instr.sliceBounds;simp only[bXW,Sem.run_bind,bJN];rw[run_sliceBound km m cap _ (by omega) (by omega)];simp only[Result.andThen_ok,bDN];rw[run_sliceBound kh h' m.toNat _ (by omega) (by omega)];simp only[Result.andThen_ok];rcases yF h hl with ⟨rfl,rfl⟩ |⟨yl,kl,rfl,aHR⟩
    ·rfl
    ·simp only[bXW,aHR,Sem.run_bind];rw[run_sliceBound kl l h'.toNat _ c0 (by omega)];rfl
   ·cases he
  ·cases he
 ·cases he
theorem oB{t e:TypeId}{size:Nat}(hu:P.underlying t=some (.slice e))(hs:(sizeOf e).run P w=.ok size w)(A0:Option Addr)(len cap:Nat)(bAP:len<=cap)(lo hi mx:Option Operand)(h:jT E X w0 ρ al fr hp a w)
  {R:Type} {K:Nat->Nat->Option R} {r:R} (he:sliceK len (lo.map (evA E fr)) (hi.map (evA E fr)) (mx.map (evA E fr)) K=some r) :
  ∃l h' m,K l h'=some r/\l<=h'/\h'<=len/\h'<=m/\m<=cap/\(Instr.sliceAt t (.slice A0 len cap) (lo.map a.eval) (hi.map a.eval) (mx.map a.eval)).run P w=.ok (.slice (if m=l then A0 else A0.map (·.add (l*size))) (h'-l) (m-l)) w:=by
 obtain⟨l,h',m,h1,h2,h3,h4,h5,iC⟩:=Ze (P:=P) len cap bAP lo hi mx h he;refine⟨l,h',m,h1,h2,h3,h4,h5,?_⟩;unfold Instr.sliceAt;rw[Sem.run_bind,run_underlying hu,Result.andThen_ok];simp only[Instr.slice,Sem.run_bind,run_underlying hu,Result.andThen_ok,iC,hs,Sem.run_pure]
theorem aGG(h:jT E X w0 ρ al fr hp a w)(hd:kG E.nt o=true)(hT:qA P E.T){t:TypeId}{y:Operand}{lo hi mx:Option Operand}(ho:o.op=.slice t y lo hi mx)(he:sV E id o (evA E fr) hp=some (x,u)):lI P E X w0 al fr hp a w o id x u:=by
 have hy:=h.ev y;unfold sV effK at he;rw[ho]at he;simp only at he;split at he
 ·rename_i s0 b0 z0 e yQ;obtain⟨d,wR,Fj⟩:=(hT t _ yQ).d;have Fj:d=.slice e:=Fj;subst Fj;split at he
  ·rename_i bytes zero k Wl;have uR:=(hT e _ Wl).run_sizeOf (w:=w);have hex:∀v,(Instr.sliceAt t (a.eval y) (lo.map a.eval) (hi.map a.eval) (mx.map a.eval)).run P w=.ok v w->(execOp a.eval o).run P w=.ok (.value v) w:=by
    intro v hv;unfold execOp;rw[ho];simp only[Sem.run_bind,hv,Result.andThen_ok,Sem.run_pure]
   split at he
   ·rename_i k' ns jO;split at he
    ·rename_i hk;subst hk;rw[jO]at hy;obtain⟨⟨A0,c,hv,bAP,kY⟩,_⟩:=hy;obtain⟨l,h',m,hK,h1,h2,h3,h4,iC⟩:=oB (P:=P) wR uR A0 ns.length c bAP lo hi mx h he;obtain⟨e1,e2⟩:=Prod.mk.inj (Option.some.inj hK);rw[<-e1,<-e2];rw[<-hv]at iC;have hlen:((ns.take h').drop l).length=h'-l:=by simp;omega
     refine dC h hd (hex _ iC) ⟨_,m-l,by rw[hlen],by rw[hlen];omega,fun i n hn=>?_⟩ (by simp[refs,refsV,refsL]);rw[bXV,List.getElem?_take]at hn;split at hn
     ·rename_i hli;obtain⟨b,off,hA,hb,hx,hc⟩:=kY (l+i) n hn;refine⟨b,off+l,?_,hb,hx,by rw[<-hc];congr 2;omega⟩;rw[bG,hA];simp[oF]
     ·cases hn
    ·cases he
   ·rename_i jO;rw[jO]at hy;have hv:a.eval y=.slice none 0 0:=hy.1.1;obtain⟨l,h',m,hK,h1,h2,h3,h4,iC⟩:=oB (P:=P) wR uR none 0 0 (bXK _) lo hi mx h he;obtain⟨e1,e2⟩:=Prod.mk.inj (Option.some.inj hK);rw[<-e1,<-e2];rw[<-hv]at iC;have hlen:h'-l=([]:List Int).length:=by simp;omega
    exact dC h hd (hex _ iC) ⟨_,m-l,by rw[hlen],by simp,fun i n hn=>by simp at hn⟩ (by simp[refs,refsV,refsL])
   ·rename_i i n jO;rw[jO]at hy;obtain⟨⟨cap,hv,Fi,hc⟩,tE⟩:=hy;obtain⟨l,h',m,hK,h1,h2,h3,h4,iC⟩:=oB (P:=P) wR uR _ n cap Fi lo hi mx h he;obtain⟨e1,e2⟩:=Prod.mk.inj (Option.some.inj hK);rw[<-e1,<-e2];rw[<-hv]at iC;refine dC h hd (hex _ iC) ⟨if m=l then 0 else l,m-l,?_,by omega,fun qJ=>?_,fun h0=>?_,fun blk k' ns hb hk=>?_⟩ tE
    ·congr 1;split <;> simp_all [oF]
    ·rw[bG]
    ·split <;> omega
    ·have:=hc blk k' ns hb hk;exact⟨by omega,by omega,by omega⟩
   ·rename_i i off n jO;rw[jO]at hy;obtain⟨⟨o',cap,hv,Fi,hA,hA0,hc⟩,tE⟩:=hy;obtain⟨l,h',m,hK,h1,h2,h3,h4,iC⟩:=oB (P:=P) wR uR _ n cap Fi lo hi mx h he;obtain⟨e1,e2⟩:=Prod.mk.inj (Option.some.inj hK);rw[<-e1,<-e2];rw[<-hv]at iC;refine dC h hd (hex _ iC) ⟨if m=l then o' else o'+l,m-l,?_,by omega,fun qJ=>?_,fun h0=>?_,fun blk k' ns hb hk=>?_⟩ tE
    ·congr 1;split <;> simp_all [oF]
    ·rw[bG,hA (by omega)]
    ·have:=hA0 (by omega);split <;> omega
    ·have:=hc blk k' ns hb hk;exact⟨by omega,by omega,by omega⟩
   ·cases he
  ·rename_i te _ Wl;have uR:=(hT e _ Wl).run_sizeOf (w:=w);split at he
   ·rename_i sz n f jO;split at he
    ·rename_i bIT;subst bIT;rw[jO]at hy;obtain⟨⟨A0,cap,hv,Fi,aWZ⟩,_⟩:=hy;obtain⟨l,h',m,hK,h1,h2,h3,h4,iC⟩:=oB (P:=P) wR uR A0 n cap Fi lo hi mx h he;obtain⟨e1,e2⟩:=Prod.mk.inj (Option.some.inj hK);rw[<-e1,<-e2];rw[<-hv]at iC;have hex:(execOp a.eval o).run P w=.ok (.value (.slice (if m=l then A0 else A0.map (·.add (l*te.size))) (h'-l) (m-l))) w:=by
      unfold execOp;rw[ho];simp only[Sem.run_bind,iC,Result.andThen_ok,Sem.run_pure]
     refine dC h hd hex ⟨_,m-l,rfl,by omega,fun i hi=>?_⟩ (by simp[refs,refsV,refsL]);obtain⟨r1,b,off,hA,r2⟩:=aWZ (l+i) (by omega);refine⟨r1,b,off+l*te.size,?_,?_⟩
     ·rw[bG,hA];simp[oF]
     ·rw[show off+l*te.size+i*te.size=off+(l+i)*te.size by rw[Nat.add_mul];omega];exact r2
    ·cases he
   ·cases he
  ·cases he
 ·cases he
theorem Ge{α:Type}{x y:α}{i:Nat}(h:[x][i]?=some y):i=0/\y=x:=by
 match i with
 |0=>simp at h;exact⟨rfl,h.symm⟩
 |i+1=>simp at h
theorem Pv(h:jT E X w0 ρ al fr hp a w)(hd:kG E.nt o=true)(hT:qA P E.T){t:TypeId}{y z:Operand}(ho:o.op=.indexAddr t y z)(he:sV E id o (evA E fr) hp=some (x,u)):lI P E X w0 al fr hp a w o id x u:=by
 have hy:=h.ev y;unfold sV effK at he;rw[ho]at he;simp only at he;split at he
 ·rename_i ti k n yQ bDP;have hz:=tC h bDP;have ht:=hT t _ yQ;obtain⟨d,wR,Fj⟩:=ht.d;split at he
  ·
   rename_i e Wu;rw[Wu]at Fj;have Fj:d=.slice e:=Fj;subst Fj;split at he
   ·rename_i te Wl;have uR:=(hT e _ Wl).run_sizeOf (w:=w);have hex:∀b off len cap,a.eval y=.slice (some ⟨b,off,none⟩) len cap->0<=n/\n<(len:Int)->(execOp a.eval o).run P w=.ok (.value (.pointer (some ⟨b,off+n.toNat*te.size,none⟩))) w:=by
     intro b off len cap hv hn;unfold execOp;rw[ho];simp only[hv,hz,Instr.indexAt,Sem.run_bind,asIntOf,Sem.run_pure,Result.andThen_ok,run_underlying wR];rw[if_pos hn];simp only[Sem.run_bind,uR,Result.andThen_ok,Sem.run_pure,oF]
    split at he
    ·cases he
    ·cases he
    ·rename_i xa bAO bDI;unfold idxK at he;split at he
     ·rename_i k' ns jO;rw[jO]at hy;obtain⟨⟨A0,c,hv,bAP,kY⟩,_⟩:=hy;split at he
      ·rename_i aXO;split at he
       ·rename_i hn;obtain⟨e1,e2⟩:=Prod.mk.inj (Option.some.inj he);rw[<-e1,<-e2];have jM:n.toNat<ns.length:=by omega
        obtain⟨b,off,hA,hb,hx,hc⟩:=kY n.toNat ns[n.toNat] (bXY jM);subst hA;refine dC h hd (hex b off ns.length c hv hn) ⟨b,off+n.toNat*te.size,rfl,fun i s hs=>?_⟩ (by simp[refs,refsV,refsL]);obtain⟨rfl,rfl⟩:=Ge hs;refine⟨hb,hx,_,by rw[aXO,bYB,bYI];exact hc,?_,rfl⟩;simp[bYX,jM]
       ·cases he
      ·cases he
     ·rename_i i m jO;rw[jO]at hy;obtain⟨⟨cap,hv,Fi,hc⟩,tE⟩:=hy;split at he
      ·rename_i e' k' ns hb;split at he
       ·rename_i aXO;split at he
        ·rename_i hn;obtain⟨e1,e2⟩:=Prod.mk.inj (Option.some.inj he);rw[<-e1,<-e2];refine dC h hd (hex _ _ m cap hv hn) ⟨by rw[aXO,bXL,bYB],fun blk k1 aDG Je aGA=>?_⟩ tE;have:=(hc blk k1 aDG Je aGA).1;omega
        ·cases he
       ·cases he
      ·rename_i e' cs hb;split at he
       ·rename_i hn;obtain⟨e1,e2⟩:=Prod.mk.inj (Option.some.inj he);rw[<-e1,<-e2];refine dC h hd (hex _ _ m cap hv hn) ?_ tE;show _=_;rw[bXL]
       ·cases he
      ·cases he
     ·rename_i i off m jO;rw[jO]at hy;obtain⟨hy,tE⟩:=hy;obtain⟨A0,cap,hv,Fi,hA,hc⟩:=xK hy;split at he
      ·rename_i e' k' ns hb;split at he
       ·rename_i aXO;split at he
        ·rename_i hn;obtain⟨e1,e2⟩:=Prod.mk.inj (Option.some.inj he);rw[<-e1,<-e2];have hA:=hA (by omega);subst hA;refine dC h hd (hex _ _ m cap hv hn) ⟨by rw[aXO,bYB],fun blk k1 aDG Je aGA=>?_⟩ tE;have:=hc blk k1 aDG Je aGA;omega
        ·cases he
       ·cases he
      ·cases he
     ·rename_i sz m f jO;rw[jO]at hy;obtain⟨⟨A0,c,hv,bAP,kY⟩,_⟩:=hy;split at he
      ·rename_i aXO;split at he
       ·rename_i hn;obtain⟨e1,e2⟩:=Prod.mk.inj (Option.some.inj he);rw[<-e1,<-e2];obtain⟨bJW,b,off,hA,hc⟩:=kY n.toNat (by omega);subst hA;exact dC h hd (hex b off m c hv hn) ⟨b,off+n.toNat*te.size,rfl,by rw[<-aXO];exact hc⟩ (by simp[refs,refsV,refsL])
       ·cases he
      ·cases he
     ·exact absurd ‹_› (bAO _ _)
     ·exact absurd ‹_› (bDI _ _)
     ·cases he
   ·cases he
  ·
   rename_i len wT g Wu;rw[Wu]at Fj;obtain⟨e,ei,ed,rfl,aOW,aUO,bOL,bOK⟩:=Fj;have uR:(sizeOf e).run P w=.ok wT w:=by simp[sizeOf,typeInfo,aOW,aUO]
   have hex:∀b off,a.eval y=.pointer (some ⟨b,off,none⟩)->0<=n/\n<(len:Int)->(execOp a.eval o).run P w=.ok (.value (.pointer (some ⟨b,off+n.toNat*wT,none⟩))) w:=by
    intro b off hv hn;unfold execOp;rw[ho];simp only[hv,hz,Instr.indexAt,Sem.run_bind,asIntOf,Sem.run_pure,Result.andThen_ok,run_underlying wR,Instr.sureAddr];rw[if_pos hn];simp only[Sem.run_bind,uR,Result.andThen_ok,Sem.run_pure,oF]
   split at he
   ·rename_i i off jO;rw[jO]at hy;simp only[idxK,Wu]at he;cases hb:bXS len 8 with
    |true =>
     rw[hb,cond_true]at he;obtain⟨j,_,hj,hn,he⟩:=Iv he;obtain⟨e1,e2⟩:=Prod.mk.inj (Option.some.inj he);rw[<-e1,<-e2];have hx:=hex _ _ hy.1 (by omega);rw[hn,Int.toNat_natCast]at hx;exact dC h hd hx rfl hy.2
    |false =>
    rw[hb,cond_false]at he;split at he
    ·rename_i hn;obtain⟨e1,e2⟩:=Prod.mk.inj (Option.some.inj he);rw[<-e1,<-e2];exact dC h hd (hex _ _ hy.1 hn) rfl hy.2
    ·cases he
   ·rename_i k' ns jO;rw[jO]at hy;obtain⟨⟨b,off,hv,hc⟩,_⟩:=hy;simp only[idxK,Wu]at he;split at he
    ·rename_i hl;split at he
     ·rename_i hn;obtain⟨e1,e2⟩:=Prod.mk.inj (Option.some.inj he);rw[<-e1,<-e2];have jM:n.toNat<ns.length:=by omega
      refine dC h hd (hex _ _ hv hn) ⟨b,off+n.toNat*wT,rfl,fun i s hs=>?_⟩ (by simp[refs,refsV,refsL]);obtain⟨rfl,rfl⟩:=Ge hs;have:=hc n.toNat (.sc (.int k' (ns.getD n.toNat 0))) (by simp[xW,bYX,jM]);rw[hl.2,bYB,bYI];exact this
     ·cases he
    ·cases he
   ·cases he
  ·cases he
 ·cases he
theorem foldMM_sound(op:BinOp)(bt:Value->Value->Sem Value)(aXW:∀k n m,∀w,(bt (.int k n) (.int k m)).run P w=.ok (.int k (match op with | .gtr=>if m>n then m else n |_=>if m<n then m else n)) w)(h:jT E X w0 ρ al fr hp a w)(k:IntKind):∀(ys:List Operand) (n r:Int),
  foldMM op k n (ys.map (evA E fr))=some r->((ys.map a.eval).foldlM bt (.int k n)).run P w=.ok (.int k r) w
 | [],n,r,he=>by cases he;rfl
 |y :: ys,n,r,he=>by
  simp only[bXJ]at he ⊢;unfold foldMM at he;split at he
  ·cases ‹_ :: _=[]›
  ·rename_i n0 k' m rest jO;obtain⟨jO,Aj⟩:=List.cons.inj jO;split at he
   ·rename_i hk;subst hk;have hy:=(h.ev y).1;rw[jO]at hy;have hy:a.eval y=.int k m:=hy.1;rw[<-Aj]at he;have ih:=foldMM_sound op bt aXW h k ys _ r he;simp only[List.foldlM_cons,Sem.run_bind,hy,aXW,Result.andThen_ok];exact ih
   ·cases he
  ·cases he
theorem Zp(h:jT E X w0 ρ al fr hp a w){y:Operand}{n:Nat}(he:lenA (evA E fr y)=some n):∃A0 cap,a.eval y=.slice A0 n cap:=by
 have hy:=(h.ev y).1;unfold lenA at he;split at he
 ·rename_i k ns jO;cases he;rw[jO]at hy;obtain⟨A0,c,hv,_⟩:=hy;exact⟨A0,c,hv⟩
 ·rename_i jO;cases he;rw[jO]at hy;exact⟨none,0,hy.1⟩
 ·rename_i i n' jO;cases he;rw[jO]at hy;obtain⟨cap,hv,_⟩:=hy;exact⟨_,cap,hv⟩
 ·rename_i i off n' jO;cases he;rw[jO]at hy;obtain⟨A0,cap,hv,_⟩:=xK hy;exact⟨A0,cap,hv⟩
 ·rename_i sz n' f jO;cases he;rw[jO]at hy;obtain⟨A0,cap,hv,_⟩:=hy;exact⟨A0,cap,hv⟩
 ·cases he
theorem uQ(h:jT E X w0 ρ al fr hp a w){k:IntKind}{y:Operand}{ns:List Int}(he:intsOf hp k (evA E fr y)=some ns) :
  ∃A0 cap,a.eval y=.slice A0 ns.length cap/\∀(i:Nat) (n:Int),ns[i]?=some n->∃ad,A0=some ad/\w.cell? (ad.add i)=some (.int k n):=by
 have hy:=(h.ev y).1;unfold intsOf at he;split at he
 ·rename_i k' oN jO;split at he <;> cases he;rename_i hk;subst hk;rw[jO]at hy;obtain⟨A0,c,hv,hle,hc⟩:=hy;refine⟨A0,c,hv,fun i n hn=>?_⟩;obtain⟨b,off,hA,_,_,Wy⟩:=hc i n hn;exact⟨_,hA,by rw[oF];exact Wy⟩
 ·rename_i jO;cases he;rw[jO]at hy;exact⟨none,0,hy.1,fun i n hn=>by simp at hn⟩
 ·rename_i i m jO;split at he
  ·rename_i e k' oN hb;split at he <;> cases he;rename_i hk;subst hk;rw[jO]at hy;obtain⟨cap,hv,hle,hc⟩:=hy;obtain⟨hm,_⟩:=hc _ k ns hb rfl;subst hm;refine⟨_,cap,hv,fun j n hn=>⟨_,rfl,?_⟩⟩;rw[oF,bXL];exact h.zO hb hn
  ·cases he
 ·rename_i i off m jO;split at he
  ·rename_i e k' oN hb;split at he <;> cases he;rename_i hk;subst hk;rw[jO]at hy;obtain⟨A0,cap,hv,hle,hA,hc⟩:=xK hy;have hl:=hc _ k oN hb rfl;have hlen:((oN.drop off).take m).length=m:=by simp;omega
   refine⟨A0,cap,by rw[hlen];exact hv,fun j n hn=>?_⟩;have hj:j<m:=by have:=bJ hn;omega
   refine⟨_,hA (by omega),?_⟩;rw[oF];rw[bXU hj,bXV]at hn;exact h.zO hb hn
  ·cases he
 ·cases he
theorem oT{b:Builtin}{args:Array Operand}{yP:Array TypeId}(ho:o.op=.call ⟨.builtin b,args,yP⟩){f:Array TypeId->TypeId->Array Value->Sem Value}(hf:∀consts vs,builtin b yP o.type consts vs=(do pure (.value (<-f yP o.type vs)):Sem Next)){v:Value}{w':World}(hr:(f yP o.type (args.map a.eval)).run P w=.ok v w') :
  (execOp a.eval o).run P w=.ok (.value v) w':=by
 unfold execOp;rw[ho];simp only[resolve,Sem.run_bind,Sem.run_pure,Result.andThen_ok,invoke,hf,hr]
theorem aKH(k:IntKind)(n m:Int)(w:World):(Builtin.max2 (.int k n) (.int k m)).run P w=.ok (.int k (if m>n then m else n)) w:=(rfl:_=Result.ok (Value.int k (@ite Int (m>n) (Int.decLt n m) m n)) w).trans (by congr)
theorem aKG(k:IntKind)(n m:Int)(w:World):(Builtin.min2 (.int k n) (.int k m)).run P w=.ok (.int k (if m<n then m else n)) w:=(rfl:_=Result.ok (Value.int k (@ite Int (m<n) (Int.decLt m n) m n)) w).trans (by congr)
theorem aRT(h:jT E X w0 ρ al fr hp a w)(hd:kG E.nt o=true)(hT:qA P E.T){args:Array Operand}{yP:Array TypeId}(ho:o.op=.call ⟨.builtin .len,args,yP⟩)(he:sV E id o (evA E fr) hp=some (x,u)):lI P E X w0 al fr hp a w o id x u:=by
 obtain⟨args⟩:=args;obtain⟨yP⟩:=yP;unfold sV effK at he;rw[ho]at he;simp only[builtinK]at he
 match args,yP,he with
 | [y],[t],he =>
  simp only[bXJ,bYF]at he;split at he
  ·rename_i s0 b0 z0 e n yQ hlen;cases he;obtain⟨d,wR,Fj⟩:=(hT t _ yQ).d;have Fj:d=.slice e:=Fj;subst Fj;obtain⟨A0,cap,hv⟩:=Zp h hlen;refine dC h hd (v:=.int .i64 n) (oT ho (f:=Builtin.len_) (fun _ _=>rfl) ?_) ⟨rfl,rfl⟩ (by simp[oC]);simp[Builtin.len_,run_underlying wR,hv,goInt]
  ·rename_i s0 b0 z0 n wT g yQ;cases he;obtain⟨d,wR,e,ei,ed,rfl,_⟩:=(hT t _ yQ).d;refine dC h hd (v:=.int .i64 n) (oT ho (f:=Builtin.len_) (fun _ _=>rfl) ?_) ⟨rfl,rfl⟩ (by simp[oC]);simp[Builtin.len_,run_underlying wR,goInt]
  ·cases he
 | [],_,he=>simp at he
 |_ :: _ :: _,_,he=>simp at he
 | [_],[],he=>simp at he
 | [_],_ :: _ :: _,he=>simp at he
theorem Nl(h:jT E X w0 ρ al fr hp a w)(hd:kG E.nt o=true){b:Builtin}(hb:b=.max\/b=.min){args:Array Operand}{yP:Array TypeId}(ho:o.op=.call ⟨.builtin b,args,yP⟩)(he:sV E id o (evA E fr) hp=some (x,u)):lI P E X w0 al fr hp a w o id x u:=by
 obtain⟨args⟩:=args;unfold sV effK at he;rw[ho]at he;simp only at he
 match args,he with
 | [],he=>rcases hb with rfl |rfl <;> simp[builtinK]at he
 |y :: ys,he =>
  simp only[bXJ]at he;have hy:=(h.ev y).1;rcases hb with rfl |rfl
  ·unfold builtinK at he;split at he <;> first | (cases he;done) | (simp_all;done) |skip
   rename_i b k n rest Je jO;obtain⟨jO,Aj⟩:=List.cons.inj jO;rw[jO]at hy;have hy:a.eval y=.int k n:=hy.1;split at he <;> cases he;rename_i m hm;rw[<-Aj]at hm;have hr:=foldMM_sound (P:=P) .gtr Builtin.max2 (fun k n m w=>aKH k n m w) h k ys n m hm;refine dC h hd (v:=.int k m) (oT ho (f:=Builtin.max_) (fun _ _=>rfl) ?_) ⟨rfl,rfl⟩ (by simp[oC]);unfold Builtin.max_;simp only[bYL,bXJ,hy];exact hr
  ·unfold builtinK at he;split at he <;> first | (cases he;done) | (simp_all;done) |skip
   rename_i b k n rest Je jO;obtain⟨jO,Aj⟩:=List.cons.inj jO;rw[jO]at hy;have hy:a.eval y=.int k n:=hy.1;split at he <;> cases he;rename_i m hm;rw[<-Aj]at hm;have hr:=foldMM_sound (P:=P) .lss Builtin.min2 (fun k n m w=>aKG k n m w) h k ys n m hm;refine dC h hd (v:=.int k m) (oT ho (f:=Builtin.min_) (fun _ _=>rfl) ?_) ⟨rfl,rfl⟩ (by simp[oC]);unfold Builtin.min_;simp only[bYL,bXJ,hy];exact hr
end
end AI
namespace AI
open Go Go.RowKit
section
variable {P:Program} {E:Env} {X:Nat->Prop} {w0:Old} {ρ:Nat->Nat} {al:Nat->Prop} {fr:Nat->A} {hp:Nat->Option mI} {a:Act} {w:World} {o:Oper} {id:Nat} {x:A} {u:tH}
def eB(k:IntKind)(ns:List Int):List Value:=ns.map fun n=>.int k n
theorem Jb(k:IntKind)(ns:List Int):∀v∈eB k ns,v.oneCell'=true:=by
 intro v hv;obtain⟨n,_,rfl⟩:=List.mem_map.1 hv;rfl
theorem xZ{w w':World}{row:Option Nat}(hg:w.grownBy w' row){k:Nat}(hk:k<w.heap.size)(Dq:row≠some k):w'.heap[k]?=w.heap[k]?:=hg.block k hk (fun e=>Dq e.symm)
theorem jT.aND(h:jT E X w0 ρ al fr hp a w){i:Nat}{e:TypeId}{k:IntKind}{ns ms:List Int}(hb:hp i=some ⟨e,.ints k ns⟩)(aHQ:E.n0<=i)(An:¬al id){g:Nat}{pE:Array Value}{w':World}(hg:w.grownBy w' (some (ρ i)))
  (hw:w'.heap[g]?=some (.cells pE e (0,0))) (Ao:g=ρ i\/w.heap.size<=g) (hc:(ns ++ ms).length<=pE.size/\∀(j:Nat) (n:Int),(ns ++ ms)[j]?=some n->pE[j]?=some (Value.int k n)) :
  jT E X w0 (Ck ρ id g) (qU al id) fr (applyUps [(i,none),(id,some ⟨e,.ints k (ns ++ ms)⟩)] hp) a w':=by
 have hi:=h.alh i _ hb;have Dq:i≠id:=fun e=>An (e▸hi)
 obtain⟨Nh,arr,aOV,_⟩:=h.blk i _ hb;have Ym:∀j,applyUps [(i,none),(id,some ⟨e,.ints k (ns ++ ms)⟩)] hp j=if j=id then some ⟨e,.ints k (ns ++ ms)⟩else if j=i then none else hp j:=by
  intro j;simp only[applyUps]
  by_cases h1:j=id
  ·subst h1;rw[dS,if_pos rfl]
  ·rw[gJ _ _ h1,if_neg h1]
   by_cases h2:j=i
   ·subst h2;rw[dS,if_pos rfl]
   ·rw[gJ _ _ h2,if_neg h2]
 have hold:∀j b,applyUps [(i,none),(id,some ⟨e,.ints k (ns ++ ms)⟩)] hp j=some b->j≠id->j≠i/\hp j=some b:=by
  intro j b hj Dq;rw[Ym,if_neg Dq]at hj;split at hj
  ·cases hj
  ·exact⟨‹_›,hj⟩
 have aQY:∀j b,hp j=some b->j≠i->ρ j≠ρ i:=fun j b hj Dq e=>Dq (h.inj j i b _ hj hb e)
 have bKM:Kept w0 w w':=⟨hg.os,hg.tape,hg.output,hg.size,fun k hk=>xZ hg (by have:=h.below.size;have:=Old.Vz hk;omega) (fun e=>by cases e;exact hk Nh.Jq),fun k hk=>yG (xZ hg (by have:=h.below.size;have:=w0.bCA k hk;omega) (fun e=>by cases e;have:=Nh.new aHQ;have:=w0.bCA _ hk;omega))⟩;have hl:jB (XO X ρ hp) w (XO X (Ck ρ id g) (applyUps [(i,none),(id,some ⟨e,.ints k (ns ++ ms)⟩)] hp)) w':=by
  refine⟨hg.size,fun b bUP hx=>⟨xZ hg bUP (fun e=>hx (.inr ⟨i,_,hb,by cases e;rfl⟩)),fun ho=>?_⟩⟩;rcases ho with ho |⟨j,bl,h1,h2⟩
  ·exact hx (.inl ho)
  ·by_cases hj:j=id
   ·subst hj;rw[dS]at h2;rcases Ao with Ao |Ao
    ·exact hx (.inr ⟨i,_,hb,by omega⟩)
    ·omega
   ·rw[gJ _ _ hj]at h2;exact hx (.inr ⟨j,bl,(hold j bl h1 hj).2,h2⟩)
 refine h.change hl bKM ?_ ?_ ?_ (fun _ h=>.inl h) ?_
 ·intro j hj;have Zw:j≠id:=fun e=>An (e▸hj)
  refine⟨gJ _ _ Zw,fun b' xJ=>?_⟩;obtain⟨h1,h2⟩:=hold j b' xJ Zw;refine⟨b',h2,fun k ns e=>⟨k,ns,e,rfl⟩,?_⟩;unfold nG;rw[xZ hg (h.jW h2) (fun e=>aQY j b' h2 h1 (Option.some.inj e).symm)]
 ·intro j b hj
  by_cases Zw:j=id
  ·subst Zw;rw[Ym,if_pos rfl]at hj;cases hj;rw[dS];exact⟨.inl (Ao.elim (fun e=>e▸Nh.new aHQ) (fun e=>bYC h.below.size e)),pE,hw,hc⟩
  ·obtain⟨h1,h2⟩:=hold j b hj Zw;rw[gJ _ _ Zw];exact⟨(h.blk j b h2).1,(h.blk j b h2).2.later hl (xZ hg (h.jW h2) (fun e=>aQY j b h2 h1 (Option.some.inj e).symm))⟩
 ·intro j j' b b' h1 h2 e
  by_cases hj:j=id
  ·by_cases aXK:j'=id
   ·rw[hj,aXK]
   ·subst hj;obtain⟨h3,h4⟩:=hold j' b' h2 aXK;rw[dS,gJ _ _ aXK]at e;rcases Ao with Ao |Ao
    ·exact absurd (e.symm.trans Ao) (aQY j' b' h4 h3)
    ·have:=h.jW h4;omega
  ·obtain⟨h5,h6⟩:=hold j b h1 hj
   by_cases aXK:j'=id
   ·subst aXK;rw[dS,gJ _ _ hj]at e;rcases Ao with Ao |Ao
    ·exact absurd (e.trans Ao) (aQY j b h6 h5)
    ·have:=h.jW h6;omega
   ·obtain⟨h3,h4⟩:=hold j' b' h2 aXK;rw[gJ _ _ hj,gJ _ _ aXK]at e;exact h.inj j j' b b' h6 h4 e
 ·intro j b hj
  by_cases Zw:j=id
  ·subst Zw;exact vK j
  ·exact .inl (h.alh j b (hold j b hj Zw).2)
theorem Qa{arr:Array Value}{k:IntKind}{ns:List Int}(h:arr.toList.take ns.length=eB k ns):∀(j:Nat) (n:Int),ns[j]?=some n->arr[j]?=some (Value.int k n):=by
 intro j n hn;have hj:=bJ hn;have:(eB k ns)[j]?=some (.int k n):=by simp[eB,hn]
 rw[<-h,bXU hj]at this;simpa using this
theorem Pl{arr:Array Value}{k:IntKind}{ns:List Int}(h:∀(j:Nat) (n:Int),ns[j]?=some n->arr[j]?=some (Value.int k n)):arr.toList.take ns.length=eB k ns:=by
 apply List.ext_getElem?;intro j
 by_cases hj:j<ns.length
 ·rw[bXU hj];have:=h j ns[j] (bXY hj);simp only[eB,bXM,bXY hj,bXW];simpa using this
 ·rw[bYZ (by simp;omega),bYZ (by simp[eB];omega)]
theorem vG(z:Array Value)(n:Nat)(hz:z.size=1):(Builtin.zeroCells z n).size=n:=by simp[Builtin.zeroCells,hz]
theorem Bi(k:IntKind)(ns ms:List Int):eB k ns ++ eB k ms=eB k (ns ++ ms):=by simp[eB]
theorem Ly{t e:TypeId}{ie:TypeInfo}{zv:Value}{bytes:Nat}(ty:TypeId)(wR:P.underlying t=some (.slice e))(hi:P.info? e=some ie)(aTY:ie.zero=some zv)(uR:ie.size=1)(aXV:ie.bytes=bytes)(bOS:bytes<=8)(aHL:zv.cells.size=1)
  {g cap:Nat} {arr:Array Value} {k:IntKind} {ns ms:List Int} (aOV:w.heap[g]?=some (.cells arr e (0,0))) (Fi:ns.length<=cap) (bKH:cap<=maxLen) (bKK:cap<=arr.size) (bAZ:∀(j:Nat) (n:Int),ns[j]?=some n->arr[j]?=some (Value.int k n))
  (ad:Addr) (c0:Nat) (kY:∀(j:Nat) (n:Int),ms[j]?=some n->w.cell? (ad.add j)=some (.int k n)) (xX:((ns.length+ms.length:Nat):Int)<=room) :
  ∃g' aAM pE w',(Builtin.append_ #[t,t] ty #[.slice (some ⟨g,0,none⟩) ns.length cap,.slice (some ad) ms.length c0]).run P w=.ok (.slice (some ⟨g',0,none⟩) (ns.length+ms.length) aAM) w' /\
   w.grownBy w' (some g)/\w'.heap[g']?=some (.cells pE e (0,0))/\(g'=g\/w.heap.size<=g')/\aAM<=pE.size/\ns.length+ms.length<=aAM/\aAM<=maxLen/\pE.toList.take (ns ++ ms).length=eB k (ns ++ ms):=by
 have hl:(eB k ms).length=ms.length*ie.size:=by simp[eB,uR]
 have aUI:∀(j:Nat) u,(eB k ms)[j]?=some u->w.cell? (ad.add j)=some u:=by
  intro j v hj;simp only[eB,bXM,bYG]at hj;obtain⟨m,hm,rfl⟩:=hj;exact kY j m hm
 have aUP:ns.length<=arr.size:=by omega
 have bIR:=Pl bAZ
 by_cases hr:ns.length+ms.length<=cap
 ·have iC:=run_append_room (P:=P) w t ty e ie wR hi g ns.length cap arr aOV ad ms.length c0 _ hl aUI (Jb k ms) hr (by rw[hl,uR];omega);refine⟨g,cap,_,_,iC,⟨rfl,rfl,rfl,by simp,fun k _ hk=>setRow_other w g k _ (fun e=>hk (by rw[e]))⟩,setRow_heap w g arr _ e _ aOV,.inl rfl,?_,hr,bKH,?_⟩
  ·simp[uR,eB];omega
  ·rw[uR,bYB,bIR,Bi];have:(ns ++ ms).length=(eB k (ns ++ ms)).length:=by simp[eB]
   rw[this];exact bZA
 ·have Ng:(ns.length+ms.length)*ie.bytes<=140737488355328:=by
   have:(ns.length+ms.length)*ie.bytes<=(ns.length+ms.length)*8:=bZW _ (by omega);unfold room at xX;omega
  have iC:=run_append_grow (P:=P) w t ty e ie zv wR hi aTY ⟨g,0,none⟩ ns.length cap (eB k ns) (by simp[eB,uR]) (fun j v hj=>by
   simp only[eB,bXM,bYG]at hj;obtain⟨m,hm,rfl⟩:=hj;rw[oF,bXL,cell_of_row w g j arr e (0,0) aOV];exact bAZ j m hm) ad ms.length c0 _ hl aUI (by omega) (by unfold room at xX;omega) (growslice_fits (by omega) Ng)
  have Ao:=grownCap_ge w (ns.length+ms.length) cap e;have aLH:grownCap w (ns.length+ms.length) cap e<=maxLen:=grownCap_le_maxLen w _ _ e (by unfold maxLen;unfold room at xX;omega);refine⟨w.heap.size,_,_,_,iC,⟨rfl,rfl,rfl,by simp,fun k hk _=>xY w.drew _ hk⟩,heap_alloc_new w.drew _,.inr (bXK _),?_,Ao,aLH,?_⟩
  ·simp only[Array.size_append,bZX,vG _ _ aHL];simp[eB];omega
  ·simp only[Array.toList_append];rw[Bi];have:(ns ++ ms).length=(eB k (ns ++ ms)).length:=by simp[eB]
   rw[this];exact bZA
theorem jT.drew(h:jT E X w0 ρ al fr hp a w):jT E X w0 ρ al fr hp a w.drew :=
 h.change ⟨bXK _,fun _ _ hx=>⟨rfl,hx⟩⟩ ⟨rfl,rfl,rfl,bXK _,fun _ _=>rfl,fun _ _=>rfl⟩
  (fun _ _=>⟨rfl,fun b' xJ=>⟨b',xJ,fun k ns e=>⟨k,ns,e,rfl⟩,rfl⟩⟩) (fun id b hb=>⟨(h.blk id b hb).1,(h.blk id b hb).2.later ⟨bXK _,fun _ _ hx=>⟨rfl,hx⟩⟩ rfl⟩) h.inj (fun _ h=>h) h.alh
theorem aAE(h:jT E X w0 ρ al fr hp a w)(hd:kG E.nt o=true)(hT:qA P E.T)(An:∀j,j<8->¬al (id+j)){args:Array Operand}{yP:Array TypeId}(ho:o.op=.call ⟨.builtin .append,args,yP⟩)(he:sV E id o (evA E fr) hp=some (x,u)):lI P E X w0 al fr hp a w o id x u:=by
 obtain⟨args⟩:=args;obtain⟨yP⟩:=yP;unfold sV effK at he;rw[ho]at he;simp only[builtinK]at he
 match args,yP,he with
 | [y,z],[t,t'],he =>
  simp only[bXJ,bYF]at he;split at he
  ·rename_i bSK;subst bSK;split at he
   ·rename_i s0 b0 z0 e yQ;obtain⟨d,wR,Fj⟩:=(hT t _ yQ).d;have Fj:d=.slice e:=Fj;subst Fj;split at he
    ·rename_i bytes zero k Wl;have Mw:=hT e _ Wl;obtain⟨ie,hi,uR,aXV,zv,aTY,Sw⟩:=Mw.i;have uR:ie.size=1:=uR;have aXV:ie.bytes=bytes:=aXV;have aHL:zv.cells.size=1:=by
      have h1:zero.length=1:=Mw.zl;have h2:zv.cells.toList=zero:=Sw;rw[<-h2]at h1;simpa using h1
     have wJ:∀i∈refs (.v (.one (.buf id 0))),qU al id i:=by
      intro i hi;simp only[refs,refsV,refsL,bYA]at hi;subst hi;exact vK i
     split at he
     ·rename_i bOS;have hy:=(h.ev y).1;split at he
      ·
       rename_i i n ms jO aRB;rw[jO]at hy;obtain⟨cap,hv,Fi,hc⟩:=hy;split at he
       ·rename_i e' k' ns hb;cases Kv:bXP i E.n0 with
        |true=>rw[Kv]at he;cases he
        |false =>
        rw[Kv]at he;simp only[cond_false]at he;have Kv:E.n0<=i:=by
         have:¬i<E.n0:=fun h=>by
          have h2:bXP i E.n0=true:=by rw[bYT];exact h
          rw[h2]at Kv;cases Kv
         omega
        split at he
        ·rename_i bUG;obtain⟨rfl,rfl⟩:=bUG;split at he
         ·rename_i xX;obtain⟨qJ,xX⟩:=xX;obtain⟨e1,e2⟩:=Prod.mk.inj (Option.some.inj he);rw[<-e1,<-e2];obtain⟨hn,bKH,bKK⟩:=hc _ k ns hb rfl;subst hn;obtain⟨Nh,arr,aOV,aUP,bAZ⟩:=h.blk i _ hb;rw[qT aOV]at bKK;obtain⟨A0,c0,aFV,kY⟩:=uQ h aRB;obtain⟨ad,hA,_⟩:=kY 0 ms[0] (bXY qJ);subst hA;obtain⟨g',aAM,pE,w',iC,hg,bOI,bJV,tW,aKX,aLH,bIR⟩:=Ly (P:=P) o.type wR hi aTY uR aXV bOS aHL aOV Fi bKH bKK bAZ ad c0 (fun j n hn=>by
           obtain⟨bPK,e1,e2⟩:=kY j n hn;cases e1;exact e2) xX
          have h1:=h.aND (id:=id) (ms:=ms) hb Kv (An 0 (by omega)) hg bOI bJV ⟨by simp;omega,Qa bIR⟩;refine⟨_,.slice (some ⟨g',0,none⟩) (ns.length+ms.length) aAM,w',.inl (oT ho (f:=Builtin.append_) (fun _ _=>rfl) ?_),h1.pure hd (x:=.v (.one (.buf id (ns.length+ms.length)))) ?_ wJ⟩
          ·simp only[bYL,bXJ,bYF,hv,aFV];exact iC
          ·refine⟨aAM,by rw[dS],aKX,fun blk k1 aDG Je aGA=>?_⟩;simp only[applyUps]at Je;rw[dS]at Je;cases Je;cases aGA;refine⟨by simp,aLH,?_⟩;rw[dS,qT bOI];exact tW
         ·cases he
        ·cases he
       ·cases he
      ·
       rename_i ms jO aRB;rw[jO]at hy;have hv:a.eval y=.slice none 0 0:=hy.1;split at he
       ·rename_i xX;obtain⟨qJ,xX⟩:=xX;obtain⟨e1,e2⟩:=Prod.mk.inj (Option.some.inj he);rw[<-e1,<-e2];obtain⟨A0,c0,aFV,kY⟩:=uQ h aRB;obtain⟨ad,hA,_⟩:=kY 0 ms[0] (bXY qJ);subst hA;have hl:(eB k ms).length=ms.length*ie.size:=by simp[eB,uR]
        have Ng:ms.length*ie.bytes<=281474976710656:=by
         have:ms.length*ie.bytes<=ms.length*8:=bZW _ (by omega);unfold room at xX;omega
        have iC:=run_append_nil (P:=P) w t o.type e ie zv wR hi aTY ad ms.length c0 (eB k ms) hl (fun j v hj=>by
         simp only[eB,bXM,bYG]at hj;obtain⟨m,hm,rfl⟩:=hj;obtain⟨bPK,e1,e2⟩:=kY j m hm;cases e1;exact e2) qJ (by unfold room at xX;omega) Ng
        have Ao:=grownCap_ge w ms.length 0 e;have aLH:grownCap w ms.length 0 e<=maxLen:=grownCap_le_maxLen w _ _ e (by unfold maxLen;unfold room at xX;omega);have h1:=h.drew.alloc (id:=id) (al':=qU al id) (An 0 (by omega)) (fun _ h=>.inl h) (vK id) e (.ints k ms) ((eB k ms).toArray ++ Builtin.zeroCells zv.cells (grownCap w ms.length 0 e-ms.length)) (by
         refine⟨by simp[eB,vG _ _ aHL],fun j n hn=>?_⟩;have hj:=bJ hn;rw[Array.getElem?_append_left (by simp[eB];omega)];simp[eB,hn])
        refine⟨_,.slice (some ⟨w.heap.size,0,none⟩) ms.length (grownCap w ms.length 0 e),_,.inl (oT ho (f:=Builtin.append_) (fun _ _=>rfl) ?_),h1.pure hd (x:=.v (.one (.buf id ms.length))) ?_ wJ⟩
        ·simp only[bYL,bXJ,bYF,hv,aFV];exact iC
        ·refine⟨_,by rw[dS];rfl,Ao,fun blk k1 aDG Je aGA=>?_⟩;rw[dS]at Je;cases Je;cases aGA;refine⟨rfl,aLH,?_⟩;rw[dS,qT (Gh w.drew _)];simp only[Array.size_append,bZX,vG _ _ aHL];simp[eB];omega
       ·cases he
      ·cases he
     ·cases he
    ·cases he
   ·cases he
  ·cases he
 | [],_,he=>simp at he
 | [_],_,he=>simp at he
 |_ :: _ :: _ :: _,_,he=>simp at he
 | [_,_],[],he=>simp at he
 | [_,_],[_],he=>simp at he
 | [_,_],_ :: _ :: _ :: _,he=>simp at he
theorem Vg{α:Type}(f:Nat->α)(i:Nat)(b:α)(h:f i=b):Ck f i b=f:=by
 funext j
 by_cases hj:j=i
 ·subst hj;rw[dS,h]
 ·rw[gJ _ _ hj]
theorem Rb(h:jT E X w0 ρ al fr hp a w){t t' e:TypeId}{bytes:Nat}{zero:List Value}{k:IntKind}(ty:TypeId)(wR:P.underlying t=some (.slice e))(Wl:Dy P e ⟨1,bytes,zero,.int k⟩)
  {i off n dcap:Nat} {e':TypeId} {ns ms:List Int} (hb:hp i=some ⟨e',.ints k ns⟩) (hle:off+n<=ns.length) (Ad:Option Addr) (hA:0<n->Ad=some ⟨ρ i,off,none⟩)
  (As:Option Addr) (sc:Nat) (kY:∀(j:Nat) (m:Int),ms[j]?=some m->∃ad,As=some ad/\w.cell? (ad.add j)=some (.int k m)) :
  ∃w',(Builtin.copy_ #[t,t'] ty #[.slice Ad n dcap,.slice As ms.length sc]).run P w=.ok (.int .i64 (min ms.length n:Nat)) w' /\
   jT E X w0 ρ al fr (Ck hp i (some ⟨e',.ints k (ns.take off ++ (ms.take n ++ ns.drop (off+min ms.length n)))⟩)) a w':=by
 obtain⟨ie,hi,uR,_⟩:=Wl.i;have uR:ie.size=1:=uR;have aWX:(P.info? e).map (·.size)=some 1:=by simp[hi,uR]
 obtain⟨_,arr,aOV,aUP,bAZ⟩:=h.blk i _ hb
 by_cases h0:min ms.length n=0
 ·refine⟨w,?_,?_⟩
  ·have:=run_copy_none (P:=P) w t t' ty e Ad As n dcap ms.length sc wR aWX h0;rw[this,h0];rfl
  ·have hc:ns.take off ++ (ms.take n ++ ns.drop (off+min ms.length n))=ns:=by
    have:ms.take n=[]:=by
     apply bZB;rw[bZC];omega
    rw[this,h0];simp
   rw[hc,Vg _ _ _ hb];exact h
 ·have hn:0<n:=by omega
  have hm:0<ms.length:=by omega
  have hA:=hA hn;subst hA;obtain⟨ad,rfl,_⟩:=kY 0 ms[0] (bXY hm);have hlen:(eB k (ms.take n)).length=min ms.length n:=by rw[eB,bYW,bZC];omega
  have iC:=run_copy_row (P:=P) w t t' ty e (ρ i) off n dcap ad ms.length sc arr e' (eB k (ms.take n)) wR aWX aOV hlen (fun j v hj=>by
   simp only[eB,bXM,bYG]at hj;obtain⟨m,hm,rfl⟩:=hj;have Zw:j<n:=by have:=bJ hm;simp at this;omega
   rw[bXU Zw]at hm;obtain⟨bPK,e1,e2⟩:=kY j m hm;cases e1;exact e2) (by rw[hlen];have:ns.length<=arr.size:=aUP;omega) (Jb k _)
  rw[hlen]at iC;refine⟨_,iC,?_⟩;have aUP:ns.length<=arr.size:=aUP;refine h.setRow hb _ _ (fun k1 aDG e1=>?_) ?_ ?_
  ·cases e1;exact⟨k,ns,rfl,by simp;omega⟩
  ·rw[qT aOV];simp[hlen];omega
  ·refine⟨by simp[hlen];omega,fun j m hj=>?_⟩;have jM:(ms.take n).length=min ms.length n:=by simp;omega
   rw[<-jM,List.yW ns (ms.take n) off j (by rw[jM];omega)]at hj;have e1:(arr.toList.take off ++ eB k (ms.take n) ++ arr.toList.drop (off+min ms.length n)).toArray[j]?=(arr.toList.take off ++ (eB k (ms.take n) ++ arr.toList.drop (off+(eB k (ms.take n)).length)))[j]?:=by
    rw[hlen];simp[bYY]
   rw[e1,List.yW _ _ _ _ (by rw[hlen];simp;omega),hlen];rw[jM]at hj
   by_cases Zx:off<=j/\j<off+min ms.length n
   ·rw[if_pos Zx]at hj ⊢;simp only[eB,bXM,hj,bXW]
   ·rw[if_neg Zx]at hj ⊢;simpa using bAZ j m hj
theorem aME(h:jT E X w0 ρ al fr hp a w)(hd:kG E.nt o=true)(hT:qA P E.T){args:Array Operand}{yP:Array TypeId}(ho:o.op=.call ⟨.builtin .copy,args,yP⟩)(he:sV E id o (evA E fr) hp=some (x,u)):lI P E X w0 al fr hp a w o id x u:=by
 obtain⟨args⟩:=args;obtain⟨yP⟩:=yP;unfold sV effK at he;rw[ho]at he;simp only[builtinK]at he
 match args,yP,he with
 | [y,z],[t,t'],he =>
  simp only[bXJ,bYF]at he;split at he
  ·rename_i s0 b0 z0 e yQ;obtain⟨d,wR,Fj⟩:=(hT t _ yQ).d;have Fj:d=.slice e:=Fj;subst Fj;split at he
   ·rename_i bytes zero k Wl;have Mw:=hT e _ Wl;have hy:=(h.ev y).1;have fin:∀{i:Nat} {e':TypeId} {k':IntKind} {ns cs:List Int} {n:Nat},(∃w',(Builtin.copy_ #[t,t'] o.type (#[y,z].map a.eval)).run P w=.ok (.int .i64 n) w'/\jT E X w0 ρ al fr (Ck hp i (some ⟨e',.ints k cs⟩)) a w') ->
      lI P E X w0 al fr hp a w o id (Dh (.int .i64 n)) [(i,some ⟨e',.ints k cs⟩)]:=by
     intro i e' k' ns cs n hw;obtain⟨w',h1,h2⟩:=hw;exact⟨ρ,_,w',.inl (oT ho (f:=Builtin.copy_) (fun _ _=>rfl) h1),(h2.more id).pure hd ⟨rfl,rfl⟩ (by simp[oC])⟩
    split at he
    ·rename_i i n ms jO aRB;rw[jO]at hy;obtain⟨cap,hv,Fi,hc⟩:=hy;split at he
     ·rename_i e' k' ns hb;split at he
      ·rename_i hk;subst hk;obtain⟨e1,e2⟩:=Prod.mk.inj (Option.some.inj he);rw[<-e1,<-e2];obtain⟨hn,_⟩:=hc _ k ns hb rfl;obtain⟨A0,c0,aFV,kY⟩:=uQ h aRB;have:=Rb (P:=P) h (t':=t') (off:=0) (n:=n) (dcap:=cap) o.type wR Mw hb (by omega) (some ⟨ρ i,0,none⟩) (fun _=>rfl) A0 c0 kY;simp only[List.take_zero,List.nil_append,bXL]at this;refine fin (k':=k) (ns:=ns) ?_;simp only[bYL,bXJ,bYF,hv,aFV];exact this
      ·cases he
     ·cases he
    ·rename_i i off n ms jO aRB;rw[jO]at hy;obtain⟨Ad,cap,hv,Fi,hA,hc⟩:=xK hy;split at he
     ·rename_i e' k' ns hb;split at he
      ·rename_i hk;obtain⟨rfl,hle⟩:=hk;obtain⟨e1,e2⟩:=Prod.mk.inj (Option.some.inj he);rw[<-e1,<-e2];obtain⟨A0,c0,aFV,kY⟩:=uQ h aRB;have:=Rb (P:=P) h (t':=t') (off:=off) (n:=n) (dcap:=cap) o.type wR Mw hb hle Ad hA A0 c0 kY;refine fin (k':=k) (ns:=ns) ?_;simp only[bYL,bXJ,bYF,hv,aFV];exact this
      ·cases he
     ·cases he
    ·cases he
   ·cases he
  ·cases he
 | [],_,he=>simp at he
 | [_],_,he=>simp at he
 |_ :: _ :: _ :: _,_,he=>simp at he
 | [_,_],[],he=>simp at he
 | [_,_],[_],he=>simp at he
 | [_,_],_ :: _ :: _ :: _,he=>simp at he
def oW(Y:Nat->Prop)(w:World):D->Value->Prop
 | .s x,v=>rH Y w x v
 | .rows sz n f,v=>∃A c,v=.slice A n c/\n<=c/\∀i,i<n->(f i).length=sz/\∃b off,A=some ⟨b,off,none⟩/\vB Y w b (off+i*sz) (f i)
 | .agg cs,v=>∃arr,v=.agg arr/\mB Y w cs arr.toList
 | .own _ k ns,v=>rH Y w (.ints k ns) v
 | .io _ _ _ _ _,_=>False
 | .back _ _ _,_=>False
def Rm(base:Nat)(w:World)(g:Nat)(e:TypeId)(k:IntKind)(ns:List Int)(v:Value):Prop :=
 ∃arr cap,v=.slice (some ⟨g,0,none⟩) ns.length cap/\base<=g/\w.heap[g]?=some (.cells arr e (0,0))/\ns.length<=cap/\cap<=arr.size/\cap<=maxLen/\∀(j:Nat) (n:Int),ns[j]?=some n->arr[j]?=some (Value.int k n)
def mA:D->Bool
 | .own _ _ _=>true
 |_=>false
def aBB(Y:Nat->Prop)(base:Nat)(w:World)(rs:List D)(vs:List Value):Prop :=
 ∃g:Nat->Nat,rs.length=vs.length/\(∀(i j:Nat) (d d':D),rs[i]?=some d->rs[j]?=some d'->mA d=true->mA d'=true->g i=g j->i=j) /\
  ∀(i:Nat) (d:D) (v:Value),rs[i]?=some d->vs[i]?=some v->match d with
   | .own e k ns=>Rm base w (g i) e k ns v
   |d=>oW (fun b=>Y b\/∃(j:Nat) (d':D),rs[j]?=some d'/\mA d'=true/\g j=b) w d v
def resV:List Value->Value
 | [v]=>v
 |vs=>.tuple vs.toArray
def Contract(P:Program)(glob:Nat->Option (IntKind×List Int))(f:FuncId)(ds rs:List D):Prop :=
 ∀(Y:Nat->Prop) (w:World) (vs:List Value),(∀b,Y b->b<w.heap.size)->GlobOk glob Y w->ds.length=vs.length ->
  (∀(i:Nat) (d:D) (v:Value),ds[i]?=some d->vs[i]?=some v->oW Y w d v) ->
  Calls P f vs.toArray w fun e w'=>∃Ag,e=.returned (resV Ag)/\Below w.heap.size w w'/\aBB Y w.heap.size w' rs Ag
def aAX(w:World)(g len off n:Nat)(v:Value):Prop :=
 ∃o' cap,v=.slice (some ⟨g,o',none⟩) n cap/\n<=cap/\(0<n->o'=off)/\(off=0->o'=0)/\off+n<=len/\cap<=maxLen/\cap<=nG w g
def bAB(w:World)(g:Nat)(e:TypeId)(k:IntKind)(ns:List Int)(off n:Nat)(v:Value):Prop :=
 aAX w g ns.length off n v/\Gt (fun _=>False) w g ⟨e,.ints k ns⟩
def Gf:D->Bool
 | .io _ _ _ _ _=>true
 |_=>false
def aFC(Y:Nat->Prop)(w:World)(g:Nat->Nat)(i:Nat)(v:Value):D->Prop
 | .io e k ns off n=>Y (g i)/\bAB w (g i) e k ns off n v
 |d=>oW Y w d v
def Us(w:World)(b:Nat):D->Prop
 | .io e k ns _ _=>Gt (fun _=>False) w b ⟨e,.ints k ns⟩
 |_=>False
structure Eu(M:Nat->Prop)(w w':World):Prop where
 os:w'.os=w.os
 tape:w'.tape=w.tape
 output:w'.output=w.output
 size:w.heap.size<=w'.heap.size
 block:∀b,b<w.heap.size->¬M b->w'.heap[b]?=w.heap[b]?
 room:∀b,M b->nG w' b=nG w b
def Em(ps:List Nat)(g:Nat->Nat)(b:Nat):Prop:=∃i,i∈ps/\g i=b
def aUY(ps:List Nat)(ds js:List D):Prop :=
 ∀(j i:Nat),ps[j]?=some i->∃e k ns off n e' k' oN,ds[i]?=some (.io e k ns off n)/\js[j]?=some (.io e' k' oN 0 0)/\oN.length=ns.length
def bLT(Y:Nat->Prop)(base:Nat)(w:World)(ps:List Nat)(js:List D)(g0:Nat->Nat)(gi:Nat)(v:Value):D->Prop
 | .own e k ns=>Rm base w gi e k ns v
 | .back p off n=>∃(j:Nat) (e:TypeId) (k:IntKind) (ns:List Int),ps[j]?=some p/\js[j]?=some (.io e k ns 0 0)/\aAX w (g0 p) ns.length off n v
 |d=>oW Y w d v
def Ug(Y:Nat->Prop)(base:Nat)(w:World)(ps:List Nat)(js:List D)(g0:Nat->Nat)(rs:List D)(vs:List Value):Prop :=
 ∃g:Nat->Nat,rs.length=vs.length/\(∀(i j:Nat) (d d':D),rs[i]?=some d->rs[j]?=some d'->mA d=true->mA d'=true->g i=g j->i=j) /\
  ∀(i:Nat) (d:D) (v:Value),rs[i]?=some d->vs[i]?=some v->bLT (fun b=>Y b\/∃(j:Nat) (d':D),rs[j]?=some d'/\mA d'=true/\g j=b) base w ps js g0 (g i) v d
structure qL(P:Program)(glob:Nat->Option (IntKind×List Int))(f:FuncId)(ps:List Nat)(ds rs js:List D):Prop where
 len:js.length=ps.length
 io:aUY ps ds js
 run:∀(Y:Nat->Prop) (w:World) (vs:List Value) (g:Nat->Nat),(∀b,Y b->b<w.heap.size)->GlobOk glob Y w->ds.length=vs.length ->
  (∀(i:Nat) (d:D) (v:Value),ds[i]?=some d->vs[i]?=some v->aFC Y w g i v d)->(∀i j,i∈ps->j∈ps->g i=g j->i=j) ->
  Calls P f vs.toArray w fun e w'=>∃Ag,e=.returned (resV Ag)/\Eu (Em ps g) w w'/\Ug Y w.heap.size w' ps js g rs Ag/\∀(j i:Nat) (d:D),ps[j]?=some i->js[j]?=some d->Us w' (g i) d
def wY(P:Program)(f:FuncId):Prop:=∀(vs:Array Value) (w:World),(callFunc f vs).run P w=.ok (.enter f vs) w
structure lZ(P:Program)(E:Env):Prop where
 c:∀f ds g rs,E.ioF f=[]->E.C f ds=some (g,rs)->g->Contract P E.glob f ds rs/\wY P f
 i:∀f p ps ds g rs,E.ioF f=p :: ps->E.C f ds=some (g,rs)->g->∃Hm js,rs=Hm ++ js/\qL P E.glob f (p :: ps) ds Hm js/\wY P f
 x:∀f vs g rs,E.ext f vs=some (g,rs)->g->(∀v∈rs,v.oneCell'=true)/\∀w,(callFunc f vs.toArray).run P w=.ok (.value (resV rs)) w
theorem oW.later{Y Y':Nat->Prop}{w w':World}(h:jB Y w Y' w'){d:D}{v:Value}(r:oW Y w d v):oW Y' w' d v:=by
 cases d with
 |s x=>exact rH.later h r
 |rows sz n f =>
  obtain⟨A0,c,hv,hle,hc⟩:=r;refine⟨A0,c,hv,hle,fun i hi=>?_⟩;obtain⟨hl,b,off,hA,Nd⟩:=hc i hi;exact⟨hl,b,off,hA,Nd.later h⟩
 |agg cs=>obtain⟨arr,hv,hr⟩:=r;exact⟨arr,hv,hr.later h⟩
 |own e k ns=>exact rH.later (s:=.ints k ns) h r
 |io=>exact r
 |back=>exact r
theorem rH.any{Y Y':Nat->Prop}{w w':World}{x:S}{v:Value}(hs:Kd x=false)(r:rH Y w x v):rH Y' w' x v:=by
 cases x with
 |sc u=>exact r
 |bot=>exact r
 |ints k ns=>cases hs
theorem oW.any{Y Y':Nat->Prop}{w w':World}{d:D}{v:Value}(hs:shares d=false)(ho:mA d=false)(r:oW Y w d v):oW Y' w' d v:=by
 cases d with
 |s x=>exact rH.any hs r
 |rows sz n f=>cases hs
 |agg cs =>
  obtain⟨arr,hv,hl,hr⟩:=r;refine⟨arr,hv,hl,fun i s u h1 h2=>(hr i s u h1 h2).any ?_⟩;have:=List.any_eq_false.1 (show cs.any Kd=false from hs) s (bXQ h1);simpa using this
 |own e k ns=>cases ho
 |io=>exact r
 |back=>exact r
def aAS(args:List A):tH:=(args.flatMap refs).map fun i=>(i,none)
theorem Xw(args:List A):Cons (aAS args):=by
 intro p hp;obtain⟨i,_,rfl⟩:=List.mem_map.1 hp;rfl
theorem Qh(h:jT E X w0 ρ al fr hp a w){u:tH}(hu:Cons u){y:A}{v:Value}(hr:zY ρ hp (XO X ρ hp) w y v)(Zx:∀i∈refs y,(i,none)∈u){d:D}(hd:toD hp y=some d):oW (XO X ρ (applyUps u hp)) w d v:=by
 have hl:jB (XO X ρ hp) w (XO X ρ (applyUps u hp)) w:=jB.cons hu;unfold toD at hd;split at hd
 ·cases hd;obtain⟨arr,hv,hs⟩:=hr;exact⟨arr,hv,hs.later hl⟩
 ·cases hd;exact rH.later hl hr
 ·cases hd;exact oW.later hl (d:=.rows _ _ _) hr
 ·rename_i i n;split at hd
  ·rename_i e k ns hb;cases hd;obtain⟨cap,hv,Fi,hc⟩:=hr;obtain⟨hn,_⟩:=hc _ k ns hb rfl;subst hn;refine⟨_,cap,hv,Fi,fun j m hj=>⟨ρ i,0,rfl,h.jW hb,h.Xa hb hu (Zx i (by simp[refs,refsV,refsL])),?_⟩⟩;rw[bXL];exact h.zO hb hj
  ·rename_i e cs hb;split at hd
   ·rename_i hlen;cases hd;obtain⟨cap,hv,Fi,_⟩:=hr;refine⟨_,cap,hv,Fi,fun j hj=>?_⟩;have hle:(j+1)*(cs.length/n)<=n*(cs.length/n):=Nat.mul_le_mul_right _ hj;rw[Nat.add_mul,Nat.one_mul]at hle;refine⟨by simp;omega,ρ i,0,rfl,fun m s hm=>?_⟩;have bJG:m<cs.length/n:=by
     have:=bJ hm;simp at this;omega
    rw[bXU bJG,bXV]at hm;obtain⟨_,hB⟩:=h.blk i _ hb;obtain⟨arr,Qw,aYA⟩:=hB;obtain⟨aUJ,Nd⟩:=aYA;obtain⟨u0,aUE,bNQ⟩:=Nd _ _ hm;refine⟨h.jW hb,h.Xa hb hu (Zx i (by simp[refs,refsV,refsL])),u0,?_,rH.later hl bNQ⟩;rw[cell_of_row w (ρ i) _ arr e (0,0) Qw,bXL];exact aUE
   ·cases hd
  ·cases hd
 ·rename_i i off n;split at hd
  ·rename_i e k ns hb;cases hd;obtain⟨A0,cap,hv,Fi,hA,hc⟩:=xK hr;have hle:=hc _ k ns hb rfl;have hlen:((ns.drop off).take n).length=n:=by simp;omega
   refine⟨A0,cap,by rw[hlen];exact hv,by rw[hlen];exact Fi,fun j m hj=>?_⟩;have Zw:j<n:=by have:=bJ hj;omega
   refine⟨ρ i,off,hA (by omega),h.jW hb,h.Xa hb hu (Zx i (by simp[refs,refsV,refsL])),?_⟩;rw[bXU Zw,bXV]at hj;exact h.zO hb hj
  ·cases hd
 ·cases hd
theorem jT.called(h:jT E X w0 ρ al fr hp a w){w':World}(hB:Below w.heap.size w w'){ρ':Nat->Nat}{hp':Nat->Option mI}{al':Nat->Prop}(tE:∀i,al i->al' i)
  (hold:∀i,al i->ρ' i=ρ i/\hp' i=hp i) (wJ:∀i b,hp' i=some b->¬al i->al' i/\w.heap.size<=ρ' i/\∀Y,Gt Y w' (ρ' i) b)
  (Bl:∀i j b c,hp' i=some b->hp' j=some c->¬al i->¬al j->ρ' i=ρ' j->i=j):jT E X w0 ρ' al' fr hp' a w'/\jB (XO X ρ hp) w (XO X ρ' hp') w':=by
 have Zz:Kept w0 w w':=⟨hB.os,hB.tape,hB.output,hB.size,fun b hb=>hB.block b (by have:=h.below.size;have:=Old.Vz hb;omega),fun b hb=>yG (hB.block b (by have:=h.below.size;have:=w0.bCA b hb;omega))⟩;have hl:jB (XO X ρ hp) w (XO X ρ' hp') w':=by
  refine⟨hB.size,fun b hb hx=>⟨hB.block b hb,fun ho=>?_⟩⟩;rcases ho with ho |⟨i,bl,h1,h2⟩
  ·exact hx (.inl ho)
  ·by_cases hi:al i
   ·obtain⟨e1,e2⟩:=hold i hi;exact hx (.inr ⟨i,bl,by rw[<-e2];exact h1,by rw[<-e1];exact h2⟩)
   ·have:=(wJ i bl h1 hi).2.1;omega
 refine⟨h.change hl Zz ?_ ?_ ?_ tE ?_,hl⟩
 ·intro i hi;obtain⟨e1,e2⟩:=hold i hi;refine⟨e1,fun b' xJ=>?_⟩;rw[e2]at xJ;refine⟨b',xJ,fun k ns e=>⟨k,ns,e,rfl⟩,?_⟩;unfold nG;rw[hB.block _ (h.jW xJ)]
 ·intro i b hb
  by_cases hi:al i
  ·obtain⟨e1,e2⟩:=hold i hi;rw[e2]at hb;rw[e1];exact⟨(h.blk i b hb).1,(h.blk i b hb).2.later hl (hB.block _ (h.jW hb))⟩
  ·obtain⟨_,h2,h3⟩:=wJ i b hb hi;exact⟨.inl (bYC h.below.size h2),h3 _⟩
 ·intro i j b c hb hc e
  by_cases hi:al i
  ·obtain⟨e1,e2⟩:=hold i hi
   by_cases hj:al j
   ·obtain⟨e3,e4⟩:=hold j hj;rw[e2]at hb;rw[e4]at hc;rw[e1,e3]at e;exact h.inj i j b c hb hc e
   ·rw[e2]at hb;have:=h.jW hb;have:=(wJ j c hc hj).2.1;omega
  ·by_cases hj:al j
   ·obtain⟨e3,e4⟩:=hold j hj;rw[e4]at hc;have:=h.jW hc;have:=(wJ i b hb hi).2.1;omega
   ·exact Bl i j b c hb hc hi hj e
 ·intro i b hb
  by_cases hi:al i
  ·exact tE i hi
  ·exact(wJ i b hb hi).1
theorem jT.aMZ(h:jT E X w0 ρ al fr hp a w){w':World}{M:Nat->Prop}(hB:Eu M w w')(hM:∀b,M b->aPE ρ hp b){ρ':Nat->Nat}{hp':Nat->Option mI}{al':Nat->Prop}(tE:∀i,al i->al' i)
  (hρ:∀i,al i->ρ' i=ρ i)
  (hold:∀i b',al i->hp' i=some b'->(¬M (ρ i)/\hp i=some b')\/(M (ρ i)/\∃b,hp i=some b/\sameShape b b'/\∀Y,Gt Y w' (ρ i) b'))
  (wJ:∀i b,hp' i=some b->¬al i->al' i/\w.heap.size<=ρ' i/\∀Y,Gt Y w' (ρ' i) b)
  (Bl:∀i j b c,hp' i=some b->hp' j=some c->¬al i->¬al j->ρ' i=ρ' j->i=j):jT E X w0 ρ' al' fr hp' a w'/\jB (XO X ρ hp) w (XO X ρ' hp') w':=by
 have bDK:∀b,M b->w0.Jq b:=fun b hb=>by
  obtain⟨id,bl,h1,rfl⟩:=hM b hb;exact(h.blk id bl h1).1.Jq
 have Zz:Kept w0 w w':=⟨hB.os,hB.tape,hB.output,hB.size,fun b hb=>hB.block b (by have:=h.below.size;have:=Old.Vz hb;omega) (fun hm=>hb (bDK b hm)),fun b hb=>by
  by_cases hm:M b
  ·exact hB.room b hm
  ·exact yG (hB.block b (by have:=h.below.size;have:=w0.bCA b hb;omega) hm)⟩
 have Ym:∀i b',al i->hp' i=some b'->∃b,hp i=some b/\sameShape b b':=by
  intro i b' hi hb;rcases hold i b' hi hb with ⟨_,h2⟩ |⟨_,b,h2,h3,_⟩
  ·exact⟨b',h2,fun k ns e=>⟨k,ns,e,rfl⟩⟩
  ·exact⟨b,h2,h3⟩
 have hl:jB (XO X ρ hp) w (XO X ρ' hp') w':=by
  refine⟨hB.size,fun b hb hx=>⟨hB.block b hb (fun hm=>hx (.inr (hM b hm))),fun ho=>?_⟩⟩;rcases ho with ho |⟨i,bl,h1,h2⟩
  ·exact hx (.inl ho)
  ·by_cases hi:al i
   ·obtain⟨b0,h3,_⟩:=Ym i bl hi h1;exact hx (.inr ⟨i,b0,h3,by rw[<-hρ i hi];exact h2⟩)
   ·have:=(wJ i bl h1 hi).2.1;omega
 have uR:∀i b,al i->hp i=some b->nG w' (ρ i)=nG w (ρ i):=by
  intro i b hi hb
  by_cases hm:M (ρ i)
  ·exact hB.room _ hm
  ·exact yG (hB.block _ (h.jW hb) hm)
 refine⟨h.change hl Zz ?_ ?_ ?_ tE ?_,hl⟩
 ·intro i hi;refine⟨hρ i hi,fun b' xJ=>?_⟩;obtain⟨b,h2,h3⟩:=Ym i b' hi xJ;exact⟨b,h2,h3,uR i b hi h2⟩
 ·intro i b hb
  by_cases hi:al i
  ·rw[hρ i hi];rcases hold i b hi hb with ⟨hm,h2⟩ |⟨_,b0,h2,_,h4⟩
   ·exact⟨(h.blk i b h2).1,(h.blk i b h2).2.later hl (hB.block _ (h.jW h2) hm)⟩
   ·exact⟨(h.blk i b0 h2).1,h4 _⟩
  ·obtain⟨_,h2,h3⟩:=wJ i b hb hi;exact⟨.inl (bYC h.below.size h2),h3 _⟩
 ·intro i j b c hb hc e
  by_cases hi:al i
  ·obtain⟨b0,h1,_⟩:=Ym i b hi hb
   by_cases hj:al j
   ·obtain⟨c0,h2,_⟩:=Ym j c hj hc;rw[hρ i hi,hρ j hj]at e;exact h.inj i j b0 c0 h1 h2 e
   ·rw[hρ i hi]at e;have:=h.jW h1;have:=(wJ j c hc hj).2.1;omega
  ·by_cases hj:al j
   ·obtain⟨c0,h2,_⟩:=Ym j c hj hc;rw[hρ j hj]at e;have:=h.jW h2;have:=(wJ i b hb hi).2.1;omega
   ·exact Bl i j b c hb hc hi hj e
 ·intro i b hb
  by_cases hi:al i
  ·exact tE i hi
  ·exact(wJ i b hb hi).1
theorem Ax(keep:Bool):∀(rs:List D) (id:Nat),(takeAll keep id rs).1.length=rs.length
 | [],_=>rfl
 |d :: r,id=>by simp[takeAll,Ax keep r (id+1)]
theorem Ay(keep:Bool):∀(rs:List D) (id:Nat) (i:Nat) (d:D),rs[i]?=some d->(takeAll keep id rs).1[i]?=some (takeIn keep (id+i) d).1
 |d0 :: r,id,0,d,h=>by simp at h;subst h;rfl
 |d0 :: r,id,i+1,d,h=>by
  simp only[bZD]at h;have:=Ay keep r (id+1) i d h;simp only[takeAll,bZD,this];rw[show id+1+i=id+(i+1) by omega]
theorem takeAll_ups(keep:Bool):∀(rs:List D) (id:Nat) (hp:Nat->Option mI) (j:Nat),
  applyUps (takeAll keep id rs).2 hp j=match (if id<=j then rs[j-id]? else none)with
   |some (.own e k ns)=>if keep=true then some ⟨e,.ints k ns⟩else hp j
   |_=>hp j
 | [],id,hp,j=>by simp[takeAll,applyUps]
 |d :: r,id,hp,j=>by
  simp only[takeAll];rw[mH,takeAll_ups keep r (id+1)]
  by_cases hj:id+1<=j
  ·rw[if_pos hj,aT];have e:j-id=(j-(id+1))+1:=by omega
   rw[e,bZD];have hd:applyUps (takeIn keep id d).2 hp j=hp j:=by
    cases d <;> cases keep <;> first |rfl | (simp only[takeIn,cond_true,applyUps];rw[gJ _ _ (by omega)])
   rw[hd]
  ·rw[if_neg hj]
   by_cases bTQ:id<=j
   ·obtain rfl:j=id:=by omega
    rw[if_pos (bXK _),Nat.sub_self];cases d <;> cases keep <;> simp[takeIn,applyUps,dS]
   ·rw[if_neg bTQ];cases d <;> cases keep <;> first |rfl | (simp only[takeIn,cond_true,applyUps];rw[gJ _ _ (by omega)])
end
end AI
namespace AI
open Go Go.RowKit
section
variable {P:Program} {E:Env} {X:Nat->Prop} {w0:Old} {ρ:Nat->Nat} {al:Nat->Prop} {fr:Nat->A} {hp:Nat->Option mI} {a:Act} {w:World} {o:Oper} {id:Nat} {x:A} {u:tH}
def Uc(P:Program)(E:Env)(X:Nat->Prop)(w0:Old)(al:Nat->Prop)(fr:Nat->A)(hp:Nat->Option mI)(a:Act)(w:World)(o:Oper)(id:Nat)(x:A)(u:tH):Prop :=
 ∀(next:Act->World->Prop) (Q:Exit->Act->World->Prop),(∀ρ' v w',jT E X w0 ρ' (qU al id) (Ei o x fr) (applyUps u hp) (a.put o.dst v) w'->next (a.put o.dst v) w')->o.wp P a w next Q
theorem lI.step(h:lI P E X w0 al fr hp a w o id x u):Uc P E X w0 al fr hp a w o id x u:=by
 intro next Q hn;obtain⟨ρ',v,w',hr,hs⟩:=h;unfold Oper.wp;rcases hr with hr |⟨hr,rfl⟩
 ·rw[hr];exact hn ρ' v w' hs
 ·rw[hr];exact hn ρ' undef w' hs
theorem Wg{α β:Type}{f:α->Option β}:∀{l:List α} {r:List β},l.mapM f=some r->∀(i:Nat) (y:β),r[i]?=some y->∃x,l[i]?=some x/\f x=some y
 | [],r,h,i,y,hy=>by simp at h;subst h;simp at hy
 |x :: l,r,h,i,y,hy=>by
  rw[bYE]at h;simp only[bZO,bZP,bZQ,Option.some.injEq]at h;obtain⟨z,hz,zs,aHL,rfl⟩:=h
  match i with
  |0=>simp at hy;subst hy;exact⟨x,rfl,hz⟩
  |i+1=>simp at hy ⊢;exact Wg aHL i y hy
theorem Zm{args:List A}{y:A}(hy:y∈args){i:Nat}(hi:i∈refs y):(i,none)∈aAS args :=
 List.mem_map.2 ⟨i,List.mem_flatMap.2 ⟨y,hy,hi⟩,rfl⟩
theorem Du(h:jT E X w0 ρ al fr hp a w):∀{args:List Operand} {vs:List Value},argVals (args.map (evA E fr))=some vs->args.map a.eval=vs
 | [],vs,he=>by cases he;rfl
 |y :: ys,vs,he=>by
  simp only[bXJ]at he ⊢;unfold argVals at he;split at he
  ·cases ‹_ :: _=[]›
  ·rename_i v r jO;obtain⟨e1,e2⟩:=List.cons.inj jO;obtain⟨vr,bNG,rfl⟩:=Option.map_eq_some_iff.1 he;have hy:=(h.ev y).1;rw[e1]at hy;rw[<-e2]at bNG;rw[Du h bNG,hy.1]
  ·cases he
theorem Ni{R:Type}{g:Prop}{x:Option R}{r:R}(h:aO g x=some r):g/\x=some r:=by
 unfold aO at h;split at h
 ·rename_i hg;exact⟨hg,h⟩
 ·cases h
theorem aDY{R:Type}{g:Prop}{x:Option R}(h:g):aO g x=x:=by unfold aO;rw[if_pos h]
theorem aRU (h : jT E X w0 ρ al fr hp a w) (hd : kG E.nt o = true) (hC : lZ P E) {f : FuncId} {fo : Operand} (hf : a.eval fo = .func (.func f) #[] #[]) {args : List Operand} {yP : Array TypeId} (ho : o.op = .call ⟨.value fo, args.toArray, yP⟩) {g : Prop} {rs : List Value} (hr : (argVals (args.map (evA E fr))).bind (E.ext f) = some (g, rs)) (hg : g)
    (he : some (bBV rs, []) = some (x, u)) : lI P E X w0 al fr hp a w o id x u := by
  obtain ⟨vs, bIL, hx⟩ := Option.bind_eq_some_iff.1 hr
  obtain ⟨aFZ, iC⟩ := hC.x f vs g rs hx hg
  have hargs := Du h bIL
  have hex : (execOp a.eval o).run P w = .ok (.value (resV rs)) w := by
    unfold execOp
    rw [ho]
    simp only [resolve, hf, Deferred.ofValue, Sem.run_bind, Sem.run_pure, Result.andThen_ok, invoke]
    rw [← iC w]
    congr 1
    simp [← hargs]
  match rs, he with
  | [v], he =>
    obtain ⟨e1, e2⟩ := Prod.mk.inj (Option.some.inj he)
    rw [← e1, ← e2]
    exact dC h hd hex ⟨rfl, aFZ v (by simp)⟩ (by intro i hi; cases hi)
  | [], he =>
    obtain ⟨e1, e2⟩ := Prod.mk.inj (Option.some.inj he)
    rw [← e1, ← e2]
    exact dC h hd hex ⟨#[], rfl, rfl, fun i y v hy => by simp at hy⟩ (by intro i hi; cases hi)
  | v1 :: v2 :: vr, he =>
    obtain ⟨e1, e2⟩ := Prod.mk.inj (Option.some.inj he)
    rw [← e1, ← e2]
    refine dC h hd hex ⟨(v1 :: v2 :: vr).toArray, rfl, by simp, fun i y v hy hv => ?_⟩ ?_
    · simp only [bXM, bYG] at hy
      obtain ⟨q, hq, rfl⟩ := hy
      have : q = v := by have : (v1 :: v2 :: vr)[i]? = some v := by simpa using hv
                         rw [hq] at this; exact Option.some.inj this
      subst this
      exact ⟨rfl, aFZ q (bXQ hq)⟩
    · intro j hj
      obtain ⟨y, hy, hj⟩ := List.mem_flatMap.1 hj
      obtain ⟨q, _, rfl⟩ := List.mem_map.1 hy
      simp [refsV, refsL] at hj
theorem aDH:∀{l r:List Nat},leqN l r=true->l=r
 | [],[],_=>rfl
 |a :: l,b :: r,h=>by
  simp only[leqN,bXN]at h;rw[bXT h.1,aDH h.2]
 | [],_ :: _,h=>by cases h
 |_ :: _,[],h=>by cases h
theorem Bs(ps:List Nat)(hp:Nat->Option mI):∀(args:List A) (i:Nat) (us:List (Nat×Nat)) (ds:List D),argsIO ps hp i args=some (us,ds) ->
  (∃gid:Nat->Nat,∀q∈us,i<=q.1/\gid q.1=q.2)/\(∀q∈us,∃y d,args[q.1-i]?=some y/\i<=q.1/\toIO hp y=some (q.2,d)/\ds[q.1-i]?=some d)/\ds.length=args.length /\
  ∀(j:Nat) (d:D),ds[j]?=some d->∃y,args[j]?=some y/\((∃k,toIO hp y=some (k,d)/\(i+j,k)∈us)\/(toD hp y=some d/\∀r∈refs y,r∈rI ps i args))
 | [],i,us,ds,h=>by
  cases h;exact⟨⟨fun _=>0,fun q hq=>by cases hq⟩,fun q hq=>(by cases hq),rfl,fun j d hj=>by simp at hj⟩
 |y :: args,i,us,ds,h=>by
  unfold argsIO at h;cases Ta:ps.elem i with
  |true =>
   rw[Ta]at h;simp only[cond_true]at h;split at h
   ·rename_i k d Nb;split at h
    ·rename_i bMN ds' hr;cases h;obtain⟨⟨gid,h1⟩,h2,h3,h4⟩:=Bs ps hp args (i+1) bMN ds' hr;refine⟨⟨fun q=>if q=i then k else gid q,?_⟩,?_,by simp[h3],?_⟩
     ·intro q hq;rcases List.mem_cons.1 hq with rfl |hq
      ·exact⟨bXK _,by simp⟩
      ·obtain⟨h5,h6⟩:=h1 q hq;exact⟨by omega,by simp only;rw[bG];exact h6⟩
     ·intro q hq;rcases List.mem_cons.1 hq with rfl |hq
      ·exact⟨y,d,by simp,bXK _,Nb,by simp⟩
      ·obtain⟨y',d',h5,h6,h7,h8⟩:=h2 q hq;exact⟨y',d',by rw[show q.1-i=(q.1-(i+1))+1 by omega];simpa using h5,by omega,h7,by rw[show q.1-i=(q.1-(i+1))+1 by omega];simpa using h8⟩
     ·intro j d' hj
      match j with
      |0 =>
       simp at hj;subst hj;exact⟨y,rfl,.inl ⟨k,Nb,by simp⟩⟩
      |j+1 =>
       obtain⟨y',h5,h6⟩:=h4 j d' (by simpa using hj);refine⟨y',by simpa using h5,?_⟩;rcases h6 with ⟨k',h7,h8⟩ |⟨h7,h8⟩
       ·exact .inl ⟨k',h7,bXX _ (by rw[show i+(j+1)=i+1+j by omega];exact h8)⟩
       ·exact .inr ⟨h7,fun r hr=>by unfold rI;exact bZE _ (h8 r hr)⟩
    ·cases h
   ·cases h
  |false =>
   rw[Ta]at h;simp only[cond_false]at h;split at h
   ·rename_i d Nb;split at h
    ·rename_i bMN ds' hr;cases h;obtain⟨⟨gid,h1⟩,h2,h3,h4⟩:=Bs ps hp args (i+1) us ds' hr;refine⟨⟨gid,fun q hq=>⟨by have:=(h1 q hq).1;omega,(h1 q hq).2⟩⟩,?_,by simp[h3],?_⟩
     ·intro q hq;obtain⟨y',d',h5,h6,h7,h8⟩:=h2 q hq;exact⟨y',d',by rw[show q.1-i=(q.1-(i+1))+1 by omega];simpa using h5,by omega,h7,by rw[show q.1-i=(q.1-(i+1))+1 by omega];simpa using h8⟩
     ·intro j d' hj
      match j with
      |0 =>
       simp at hj;subst hj;exact⟨y,rfl,.inr ⟨Nb,fun r hr=>by unfold rI;rw[Ta];exact List.mem_append_left _ hr⟩⟩
      |j+1 =>
       obtain⟨y',h5,h6⟩:=h4 j d' (by simpa using hj);refine⟨y',by simpa using h5,?_⟩;rcases h6 with ⟨k',h7,h8⟩ |⟨h7,h8⟩
       ·exact .inl ⟨k',h7,by rw[show i+(j+1)=i+1+j by omega];exact h8⟩
       ·exact .inr ⟨h7,fun r hr=>by unfold rI;exact bZE _ (h8 r hr)⟩
    ·cases h
   ·cases h
theorem Ji:∀(us:List (Nat×Nat)) (js:List D) (ub:tH),backIO us js=some ub->ub.map (·.1)=us.map (·.2)/\∀(j:Nat) (q:Nat×Nat),us[j]?=some q->∃e k ns o n,js[j]?=some (.io e k ns o n)/\ub[j]?=some (q.2,some ⟨e,.ints k ns⟩)
 | [],[],ub,h=>by cases h;exact⟨rfl,fun j q hj=>by simp at hj⟩
 | (p,k) :: us,d :: js,ub,h=>by
  cases d with
  |io e kk ns o n =>
   simp only[backIO]at h;split at h
   ·rename_i bQH hr;cases h;obtain⟨h1,h2⟩:=Ji us js bQH hr;refine⟨by simp[h1],fun j q hj=>?_⟩
    match j with
    |0=>simp at hj;subst hj;exact⟨e,kk,ns,o,n,rfl,rfl⟩
    |j+1 =>
     obtain⟨e',k',oN,o',n',h3,h4⟩:=h2 j q (by simpa using hj);exact⟨e',k',oN,o',n',by simpa using h3,by simpa using h4⟩
   ·cases h
  |s=>cases h
  |rows=>cases h
  |agg=>cases h
  |own=>cases h
  |back=>cases h
 | [],_ :: _,ub,h=>by cases h
 |_ :: _,[],ub,h=>by cases h
theorem sW{i:Nat}:∀{u:tH} {hp:Nat->Option mI},i ∉ u.map (·.1)->applyUps u hp i=hp i
 | [],_,_=>rfl
 | (j,b) :: u,hp,h=>by
  simp only[bXJ,bYO,not_or]at h;simp only[applyUps];rw[sW h.2,gJ _ _ h.1]
theorem Jj{i:Nat}{b:Option mI}:∀{u:tH} {hp:Nat->Option mI} {j:Nat},nodup (u.map (·.1))=true->u[j]?=some (i,b)->applyUps u hp i=b
 | [],_,j,_,h=>by simp at h
 | (k,c) :: u,hp,j,hn,h=>by
  simp only[bXJ,nodup,bXN,bYM]at hn
  match j with
  |0 =>
   simp at h;obtain⟨rfl,rfl⟩:=h;simp only[applyUps];rw[sW (fun hm=>by
    have:(u.map (·.1)).elem k=true:=by simpa using hm
    rw[this]at hn;cases hn.1),dS]
  |j+1 =>
   simp only[applyUps];exact Jj (j:=j) hn.2 (by simpa using h)
theorem Hq{α:Type}{f:α->Nat}:∀{l:List α} {j j':Nat} {q q':α},nodup (l.map f)=true->l[j]?=some q->l[j']?=some q'->f q=f q'->j=j'
 | [],j,_,q,_,_,h,_,_=>by simp at h
 |y :: l,j,j',q,q',hn,h,h',he=>by
  simp only[bXJ,nodup,bXN,bYM]at hn;have Cw:∀z∈l,f z≠f y:=fun z hz e=>by
   have:(l.map f).elem (f y)=true:=by
    have:f y∈l.map f:=List.mem_map.2 ⟨z,hz,e⟩;simpa using this
   rw[this]at hn;cases hn.1
  match j,j' with
  |0,0=>rfl
  |0,j'+1=>simp at h h';subst h;exact absurd he.symm (Cw q' (bXQ h'))
  |j+1,0=>simp at h h';subst h';exact absurd he (Cw q (bXQ h))
  |j+1,j'+1=>exact congrArg (·+1) (Hq hn.2 (by simpa using h) (by simpa using h') he)
theorem aMI{xs ys:List Nat}(h:Py xs ys=true){x:Nat}(hx:x∈xs):x ∉ ys:=fun hy=>by
 have:=List.all_eq_true.1 h x hx;have h2:ys.elem x=true:=by simpa using hy
 rw[h2]at this;cases this
theorem Hf{y:A}{k:Nat}{d:D}(h:toIO hp y=some (k,d)):∃e kk ns off n,d=.io e kk ns off n/\hp k=some ⟨e,.ints kk ns⟩/\((y=.v (.one (.buf k n))/\off=0)\/y=.v (.one (.view k off n))):=by
 unfold toIO at h;split at h
 ·split at h
  ·rename_i e kk ns hb;cases h;exact⟨_,_,_,_,_,rfl,hb,.inl ⟨rfl,rfl⟩⟩
  ·cases h
 ·split at h
  ·rename_i e kk ns hb;cases h;exact⟨_,_,_,_,_,rfl,hb,.inr rfl⟩
  ·cases h
 ·cases h
theorem Yu(h:jT E X w0 ρ al fr hp a w){y:A}{v:Value}(hr:zY ρ hp (XO X ρ hp) w y v){k:Nat}{e:TypeId}{kk:IntKind}{ns:List Int}{off n:Nat}(hd:toIO hp y=some (k,.io e kk ns off n)):bAB w (ρ k) e kk ns off n v:=by
 obtain⟨e',kk',oN,bCC,n',heq,hb,hy⟩:=Hf hd;cases heq;have hB:Gt (fun _=>False) w (ρ k) ⟨e,.ints kk ns⟩:=(h.blk k _ hb).2;rcases hy with ⟨rfl,rfl⟩ |rfl
 ·obtain⟨cap,hv,Fi,hc⟩:=hr;have:=hc _ kk ns hb rfl;exact⟨⟨0,cap,hv,Fi,fun _=>rfl,fun _=>rfl,by omega,this.2.1,this.2.2⟩,hB⟩
 ·obtain⟨o',cap,hv,Fi,hA,hA0,hc⟩:=hr;have:=hc _ kk ns hb rfl;exact⟨⟨o',cap,hv,Fi,hA,hA0,this⟩,hB⟩
theorem aFH{y:A}{d:D}(h:toD hp y=some d):Gf d=false:=by
 unfold toD at h;split at h
 ·cases h;rfl
 ·cases h;rfl
 ·cases h;rfl
 ·split at h
  ·cases h;rfl
  ·split at h
   ·cases h;rfl
   ·cases h
  ·cases h
 ·split at h
  ·cases h;rfl
  ·cases h
 ·cases h
theorem Oc{Y:Nat->Prop}{w:World}{g:Nat->Nat}{i:Nat}{v:Value}{d:D}(hn:Gf d=false)(h:oW Y w d v):aFC Y w g i v d:=by
 cases d with
 |io=>cases hn
 |s x=>exact h
 |rows a b c=>exact h
 |agg cs=>exact h
 |own a b c=>exact h
 |back=>exact h
theorem aDJ{gid:Nat->Nat}:∀{us:List (Nat×Nat)} {q:Nat×Nat},(∀q∈us,gid q.1=q.2)->q∈us->idAt us q.1=gid q.1
 | [],q,_,h=>by cases h
 |q0 :: us,q,hg,h=>by
  simp only[idAt];cases hb:bXI q0.1 q.1 with
  |true =>
   rw[cond_true,<-bXT hb];exact(hg q0 (bXO ..)).symm
  |false =>
   rw[cond_false];rcases List.mem_cons.1 h with rfl |h
   ·rw[Nat.beq_refl]at hb;cases hb
   ·exact aDJ (fun q hq=>hg q (bXX _ hq)) h
theorem Zh{us:List (Nat×Nat)}{d:D}{e:TypeId}{k:IntKind}{ns:List Int}(h:reBack us d=.own e k ns):d=.own e k ns:=by
 cases d <;> first |exact h |cases h
theorem eff_callIO(h:jT E X w0 ρ al fr hp a w)(hd:kG E.nt o=true)(hC:lZ P E)(An:∀j,j<8->¬al (id+j)){f:FuncId}{fo:Operand}(hf:a.eval fo=.func (.func f) #[] #[]){args:List Operand}{yP:Array TypeId}(ho:o.op=.call ⟨.value fo,args.toArray,yP⟩){p:Nat}{ps:List Nat}(Nb:E.ioF f=p :: ps)
  (he:callIO E (p :: ps) id (keepOf E o) f (args.map (evA E fr)) hp (fun a u=>some (a,u))=some (x,u)):Uc P E X w0 al fr hp a w o id x u:=by
 simp only[callIO,Ft]at he;generalize keepOf E o=keep at he;split at he
 ·cases he
 ·rename_i us ds bAV;cases aRF:leqN (us.map (·.1)) (p :: ps)&&(nodup (us.map (·.2))&&Py (us.map (·.2)) (rI (p :: ps) 0 (args.map (evA E fr))))with
  |false=>rw[aRF]at he;cases he
  |true =>
  rw[aRF]at he;simp only[cond_true]at he;simp only[bXN]at aRF;obtain⟨aXU,aXD,bKC⟩:=aRF;have Ta:us.map (·.1)=p :: ps:=aDH aXU;split at he
  ·cases he
  ·rename_i gd rs aWY;obtain⟨bAS,he⟩:=Ni he;obtain⟨Hm,js,rfl,aLG,aLJ⟩:=hC.i f p ps ds gd rs Nb aWY bAS;have bSG:us.length=(p :: ps).length:=by rw[<-Ta];simp
   have aGC:(Hm ++ js).length-us.length=Hm.length:=by rw[bZY,aLG.len,bSG];omega
   rw[aGC]at he;rw[bZA,bZZ]at he;cases aDS:bXS us.length (Hm ++ js).length&&bXS (Hm ++ js).length 8&&!(Hm.any shares)with
   |false=>rw[aDS]at he;cases he
   |true =>
   rw[aDS]at he;simp only[cond_true]at he;simp only[bXN,bYM]at aDS;obtain⟨⟨_,bTG⟩,bDD⟩:=aDS;have Wt:Hm.length<=8:=by have:=bZF bTG;rw[bZY]at this;omega
   split at he
   ·cases he
   ·rename_i ub bSJ;obtain⟨⟨gid,aLC⟩,bSF,bAX,bKA⟩:=Bs _ _ _ _ _ _ bAV;obtain⟨bCS,bIP⟩:=Ji _ _ _ bSJ;rw[bYW]at bAX;obtain⟨U,hU⟩:∃U:tH,U=(rI (p :: ps) 0 (args.map (evA E fr))).map fun i=>(i,none):=⟨_,rfl⟩
    have aOZ:Cons U:=by rw[hU];intro q hq;obtain⟨i,_,rfl⟩:=List.mem_map.1 hq;rfl
    have bUX:U.map (·.1)=rI (p :: ps) 0 (args.map (evA E fr)):=by rw[hU,List.map_map];exact List.map_id _
    have Js:∀q∈us,∃e kk ns off n,hp q.2=some ⟨e,.ints kk ns⟩/\ds[q.1]?=some (.io e kk ns off n):=by
     intro q hq;obtain⟨y,d,h1,_,h2,h3⟩:=bSF q hq;obtain⟨e,kk,ns,off,n,rfl,h4,_⟩:=Hf h2;exact⟨e,kk,ns,off,n,h4,by simpa using h3⟩
    have aWT:∀q∈us,applyUps U hp q.2=hp q.2:=fun q hq=>sW (by rw[bUX];exact aMI bKC (List.mem_map.2 ⟨q,hq,rfl⟩))
    have qJ:∀i,i∈p :: ps->∃q∈us,q.1=i/\gid i=q.2:=by
     intro i hi;rw[<-Ta]at hi;obtain⟨q,hq,rfl⟩:=List.mem_map.1 hi;exact⟨q,hq,rfl,(aLC q hq).2⟩
    have hY:∀b,XO X ρ (applyUps U hp) b->b<w.heap.size:=by
     rintro b (hb |⟨i,bl,h1,h2⟩)
     ·have:=Old.Vz (h.x0 b hb);have:=h.below.size;omega
     ·have:=h.jW (iK aOZ h1);omega
    have hG:GlobOk E.glob (XO X ρ (applyUps U hp)) w:=by
     intro g k ns hg;obtain⟨h1,h2,h3⟩:=h.Th g k ns hg;exact⟨h1,fun ho=>h2 (ho.imp (fun h=>h) (aPE.of_cons aOZ)),h3.later (jB.cons aOZ)⟩
    obtain⟨g0,hg0⟩:∃g0:Nat->Nat,g0=fun i=>ρ (gid i):=⟨_,rfl⟩
    have aUT:∀b,Em (p :: ps) g0 b->∃q∈us,ρ q.2=b:=by
     rintro b ⟨i,hi,rfl⟩;obtain⟨q,hq,_,h2⟩:=qJ i hi;exact⟨q,hq,by rw[hg0];simp only;rw[h2]⟩
    have aLI:=aLG.run (XO X ρ (applyUps U hp)) w (args.map a.eval) g0 hY hG (by simp[bAX]) (fun i d v hi hv=>by
     obtain⟨y,aKQ,aWO⟩:=bKA i d hi;simp only[bXM,bYG]at aKQ hv;obtain⟨z,hz,rfl⟩:=aKQ;obtain⟨z',aWN,rfl⟩:=hv;rw[hz]at aWN;cases aWN;have jO:=h.ev z;rcases aWO with ⟨k,h1,h2⟩ |⟨h1,h2⟩
     ·rw[bXL]at h2;obtain⟨e,kk,ns,off,n,rfl,h4,_⟩:=Hf h1;have e1:g0 i=ρ k:=by rw[hg0];simp only;rw[(aLC _ h2).2]
      refine⟨by rw[e1];exact .inr ⟨k,_,(aWT _ h2).trans h4,rfl⟩,by rw[e1];exact Yu h jO.1 h1⟩
     ·refine Oc (aFH h1) (Qh h aOZ jO.1 (fun i hi=>?_) h1);rw[hU];exact List.mem_map.2 ⟨i,h2 i hi,rfl⟩) (fun i j hi hj heq=>by
     obtain⟨q,hq,rfl,h1⟩:=qJ i hi;obtain⟨q',aDL,rfl,h2⟩:=qJ j hj;rw[hg0]at heq;simp only[h1,h2]at heq;obtain⟨e1,k1,n1,o1,m1,Je,_⟩:=Js q hq;obtain⟨e2,k2,n2,o2,m2,bGN,_⟩:=Js q' aDL;have h3:=h.inj _ _ _ _ Je bGN heq;obtain⟨a1,Qw⟩:=bYJ hq;obtain⟨a2,aYA⟩:=bYJ aDL;have:=Hq aXD Qw aYA h3;subst this;rw[Qw]at aYA;cases aYA;rfl)
    have iC:(execOp a.eval o).run P w=.ok (.enter f (args.map a.eval).toArray) w:=by
     unfold execOp;rw[ho];simp only[resolve,hf,Deferred.ofValue,Sem.run_bind,Sem.run_pure,Result.andThen_ok,invoke];rw[<-aLJ];congr 1;simp
    intro next Q hn;unfold Oper.wp;rw[iC];simp only[Oper.upon_enter];refine aLI.mono ?_;rintro e w' ⟨Ag,rfl,aYE,⟨g,bJU,aLB,bDV⟩,aDT⟩;simp only;obtain⟨Sg,aKU⟩:∃Sg,Sg=Hm.map (reBack us):=⟨_,rfl⟩;rw[<-aKU]at he;have aUJ:Sg.length=Hm.length:=by rw[aKU];simp
    have bLC:∀{i:Nat} {e:TypeId} {k:IntKind} {ns:List Int},Sg[i]?=some (.own e k ns)->Hm[i]?=some (.own e k ns):=by
     intro i e k ns hi;rw[aKU,bXM]at hi;obtain⟨d,h1,h2⟩:=Option.map_eq_some_iff.1 hi;rw[h1,Zh h2]
    obtain⟨Hw,aXM⟩:∃Hw,Hw=applyUps ub hp:=⟨_,rfl⟩;obtain⟨yR,Td⟩:∃yR,yR=applyUps (takeAll keep id Sg).2 Hw:=⟨_,rfl⟩;obtain⟨ρ2,Gg⟩:∃ρ2:Nat->Nat,ρ2=fun j=>if id<=j/\j<id+8 then g (j-id)else ρ j:=⟨_,rfl⟩
    have Cw:∀i,al i->¬(id<=i/\i<id+8):=fun i hi hr=>An (i-id) (by omega) (by rw[show id+(i-id)=i by omega];exact hi)
    have xE:∀j,yR j=match (if id<=j then Sg[j-id]? else none)with
      |some (.own e k ns)=>if keep=true then some ⟨e,.ints k ns⟩else Hw j
      |_=>Hw j:=fun j=>by rw[Td];exact takeAll_ups keep Sg id _ j
    have bIO:nodup (ub.map (·.1))=true:=by rw[bCS];exact aXD
    have bDS:∀q∈us,∃(e:TypeId) (k:IntKind) (ns:List Int) (j:Nat),Hw q.2=some ⟨e,.ints k ns⟩/\us[j]?=some q/\∃(o n:Nat),js[j]?=some (D.io e k ns o n):=by
     intro q hq;obtain⟨j,hj⟩:=bYJ hq;obtain⟨e,k,ns,o,n,h1,h2⟩:=bIP j q hj;exact⟨e,k,ns,j,by rw[aXM];exact Jj bIO h2,hj,o,n,h1⟩
    have aKW:∀j,j ∉ us.map (·.2)->Hw j=hp j:=fun j hj=>by rw[aXM];exact sW (by rw[bCS];exact hj)
    have bKO:∀j b,Hw j=some b->al j:=by
     intro j b hb
     by_cases hj:j∈us.map (·.2)
     ·obtain⟨q,hq,rfl⟩:=List.mem_map.1 hj;obtain⟨e,kk,ns,off,n,h1,_⟩:=Js q hq;exact h.alh _ _ h1
     ·rw[aKW j hj]at hb;exact h.alh _ _ hb
    have aKY:∀j b,Hw j=some b->ρ j<w.heap.size:=by
     intro j b hb
     by_cases hj:j∈us.map (·.2)
     ·obtain⟨q,hq,rfl⟩:=List.mem_map.1 hj;obtain⟨e,kk,ns,off,n,h1,_⟩:=Js q hq;exact h.jW h1
     ·rw[aKW j hj]at hb;exact h.jW hb
    have Wq:∀j,¬al j->Hw j=none:=by
     intro j hj;cases hq:Hw j with
     |none=>rfl
     |some b=>exact absurd (bKO j b hq) hj
    have tY:∀j b,yR j=some b->¬al j->∃e k ns,id<=j/\Sg[j-id]?=some (.own e k ns)/\keep=true/\b=⟨e,.ints k ns⟩:=by
     intro j b hj tE;rw[xE]at hj;split at hj
     ·rename_i e k ns hq;split at hj
      ·rename_i hk;cases hj;split at hq
       ·exact⟨e,k,ns,‹_›,hq,hk,rfl⟩
       ·cases hq
      ·rw[Wq j tE]at hj;cases hj
     ·rw[Wq j tE]at hj;cases hj
    have aKT:∀i,al i->yR i=Hw i:=by
     intro i hi;rw[xE];split
     ·rename_i e k ns hq;split at hq
      ·exact absurd ⟨‹_›,by have:=bJ hq;omega⟩ (Cw i hi)
      ·cases hq
     ·rfl
    have Tf:=h.aMZ (ρ':=ρ2) (hp':=yR) (al':=qU al id) aYE (fun b hb=>by
      obtain⟨q,hq,rfl⟩:=aUT b hb;obtain⟨e,kk,ns,off,n,h1,_⟩:=Js q hq;exact⟨q.2,_,h1,rfl⟩) (fun _ h=>.inl h)
     (fun i hi=>by rw[Gg];simp only;rw[if_neg (Cw i hi)])
     (fun i b' hi hb=>by
      rw[aKT i hi]at hb
      by_cases hj:i∈us.map (·.2)
      ·obtain⟨q,hq,rfl⟩:=List.mem_map.1 hj;obtain⟨e,kk,ns,off,n,h1,h2⟩:=Js q hq;obtain⟨e',k',oN,j,h3,h4,o,m,h5⟩:=bDS q hq;rw[h3]at hb;cases hb;have bGB:(p :: ps)[j]?=some q.1:=by rw[<-Ta];simp[h4]
       obtain⟨e1,k1,n1,o1,m1,e2,k2,n2,h6,h7,h8⟩:=aLG.io j q.1 bGB;rw[h2]at h6;cases h6;rw[h5]at h7;cases h7;have bGM:Us w' (g0 q.1) (D.io e' k' oN 0 0):=aDT j q.1 _ bGB h5;have e0:g0 q.1=ρ q.2:=by rw[hg0];simp only;rw[(aLC q hq).2]
       rw[e0]at bGM;refine .inr ⟨⟨q.1,by rw[<-Ta];exact List.mem_map.2 ⟨q,hq,rfl⟩,e0⟩,_,h1,fun k ns he=>?_,fun Y=>bGM⟩;cases he;exact⟨_,_,rfl,h8.symm⟩
      ·rw[aKW i hj]at hb;refine .inl ⟨fun hm=>?_,hb⟩;obtain⟨q,hq,h1⟩:=aUT _ hm;obtain⟨e,kk,ns,off,n,h2,_⟩:=Js q hq;have:=h.inj _ _ _ _ h2 hb h1;subst this;exact hj (List.mem_map.2 ⟨q,hq,rfl⟩))
     (fun j b hj tE=>by
      obtain⟨e,k,ns,h1,h2,h3,rfl⟩:=tY j b hj tE;have jM:=bJ h2;obtain⟨v,hv⟩:=cK (l:=Ag) (i:=j-id) (by omega);obtain⟨arr,cap,_,Ao,hw,h4,aYF,h5,h6⟩:=bDV (j-id) _ v (bLC h2) hv;have e1:ρ2 j=g (j-id):=by rw[Gg];simp only;rw[if_pos ⟨h1,by omega⟩]
      exact⟨.inr ⟨h1,by omega⟩,by rw[e1];exact Ao,fun Y=>⟨arr,by rw[e1];exact hw,bYC h4 aYF,h6⟩⟩)
     (fun i j b c hi hj bKQ bKP e=>by
      obtain⟨e1,k1,aDG,h1,h2,h3,_⟩:=tY i b hi bKQ;obtain⟨e2,k2,bRB,h4,h5,h6,_⟩:=tY j c hj bKP;have l1:=bJ h2;have l2:=bJ h5;rw[Gg]at e;simp only at e;rw[if_pos ⟨h1,by omega⟩,if_pos ⟨h4,by omega⟩]at e;have:=aLB _ _ _ _ (bLC h2) (bLC h5) rfl rfl e;omega)
    obtain⟨Zs,bJK⟩:=Tf;have bIW:∀{i:Nat} {d:D},Hm[i]?=some d->shares d=false:=by
     intro i d hi;cases hs:shares d with
     |false=>rfl
     |true =>
      have:Hm.any shares=true:=List.any_eq_true.2 ⟨d,bXQ hi,hs⟩;rw[this]at bDD;cases bDD
    have Zt:∀(i:Nat) (d:D) (v:Value),Hm[i]?=some d->Ag[i]?=some v->Gs ρ2 yR (XO X ρ2 yR) w' (takeIn keep (id+i) (reBack us d)).1 v/\∀j∈refsV (takeIn keep (id+i) (reBack us d)).1,qU al id j:=by
     intro i d v hi hv;have aXL:Sg[i]?=some (reBack us d):=by rw[aKU,bXM,hi];rfl
     have hg:=bDV i d v hi hv;have bTS:=bJ hi;have bAN:=bIW hi;cases d with
     |own e k ns =>
      obtain⟨arr,cap,rfl,Ao,hw,h4,aYF,h5,h6⟩:=hg;have bJD:¬X (g i):=fun hx=>by have:=Old.Vz (h.x0 _ hx);have:=h.below.size;omega
      cases keep with
      |true =>
       have e1:ρ2 (id+i)=g i:=by rw[Gg];simp only;rw[if_pos ⟨by omega,by omega⟩];congr 1;omega
       refine⟨⟨cap,by rw[e1],h4,fun blk k1 aDG hb hk=>?_⟩,fun j hj=>?_⟩
       ·rw[xE,aT,show id+i-id=i by omega,aXL]at hb;simp only[reBack,if_true]at hb;cases hb;cases hk;exact⟨rfl,h5,by rw[e1];unfold nG;rw[hw];exact aYF⟩
       ·simp only[reBack,takeIn,cond_true,refsV,refsL,bYA]at hj;subst hj;exact .inr ⟨by omega,by omega⟩
      |false =>
       refine⟨⟨_,cap,rfl,h4,fun j n hj=>⟨g i,0,rfl,(Array.getElem?_eq_some_iff.1 hw).1,?_,?_⟩⟩,fun j hj=>by simp[reBack,takeIn,refsV,refsL]at hj⟩
       ·rintro (hx |⟨j',bl,h7,h8⟩)
        ·exact bJD hx
        ·by_cases Pq:al j'
         ·rw[aKT j' Pq]at h7;have:=aKY _ _ h7;have e2:ρ2 j'=ρ j':=by rw[Gg];simp only;rw[if_neg (Cw j' Pq)]
          omega
         ·obtain⟨_,_,_,_,_,hk,_⟩:=tY j' bl h7 Pq;cases hk
       ·rw[bXL,cell_of_row w' (g i) j arr e (0,0) hw];exact h6 j n hj
     |s x=>exact⟨oW.any (d:=.s x) bAN rfl hg,fun j hj=>by simp[reBack,takeIn,refsV,refsL]at hj⟩
     |rows sz n f=>cases bAN
     |agg cs=>exact⟨oW.any (d:=.agg cs) bAN rfl hg,fun j hj=>by simp[reBack,takeIn,refsV]at hj⟩
     |io=>cases bAN
     |back p0 off n =>
      obtain⟨j,e,k,ns,h1,h2,h3⟩:=hg;obtain⟨q,hq,rfl,h4⟩:=qJ p0 (bXQ h1);have bJS:idAt us q.1=q.2:=(aDJ (fun q hq=>(aLC q hq).2) hq).trans h4;obtain⟨e0,kk,ns0,off0,n0,hb0,_⟩:=Js q hq;have aXZ:=h.alh _ _ hb0;have e1:ρ2 q.2=g0 q.1:=by rw[Gg,hg0];simp only;rw[if_neg (Cw _ aXZ),h4]
      obtain⟨o',cap,h5,h6,h7,h8,h9,bVP,bVO⟩:=h3;simp only[reBack,bJS,takeIn];refine⟨⟨o',cap,by rw[e1];exact h5,h6,h7,h8,fun blk k1 aDG hb hk=>?_⟩,fun j hj=>?_⟩
      ·rw[aKT _ aXZ]at hb;obtain⟨e',k',oN,j',bVN,bVM,o,m,bVL⟩:=bDS q hq;rw[bVN]at hb;cases hb;cases hk;have bGB:(p :: ps)[j']?=some q.1:=by rw[<-Ta];simp[bVM]
       have bTM:j=j':=by
        have f1:((us.map (·.1)).map gid)[j]?=some q.2:=by rw[Ta,bXM,h1];simp[h4]
        have f2:((us.map (·.1)).map gid)[j']?=some q.2:=by rw[Ta,bXM,bGB];simp[h4]
        have f3:(us.map (·.1)).map gid=us.map (·.2):=by
         rw[List.map_map];exact bYU fun q hq=>(aLC q hq).2
        have bDF:nodup ((us.map (·.2)).map fun x=>x)=true:=by rw[List.map_id'];exact aXD
        rw[f3]at f1 f2;exact Hq bDF f1 f2 rfl
       subst bTM;rw[bVL]at h2;cases h2;exact⟨h9,bVP,by rw[e1];exact bVO⟩
      ·simp only[refsV,refsL,bYA]at hj;subst hj;exact .inl aXZ
    have Jd:(takeAll keep id Sg).1.length=Ag.length:=by rw[Ax,aUJ];exact bJU
    have hval:∀(i:Nat) (y:V) (v:Value),(takeAll keep id Sg).1[i]?=some y->Ag[i]?=some v->Gs ρ2 yR (XO X ρ2 yR) w' y v/\∀j∈refsV y,qU al id j:=by
     intro i y v hy hv;obtain⟨d,Bm⟩:=cK (l:=Hm) (i:=i) (by have:=bJ hv;omega);rw[Ay keep Sg id i (reBack us d) (by rw[aKU,bXM,Bm];rfl)]at hy;cases hy;exact Zt i d v Bm hv
    have wK:∀(y:A),zY ρ2 yR (XO X ρ2 yR) w' y (resV Ag)->(∀j∈refs y,qU al id j)->some (y,ub ++ (takeAll keep id Sg).2)=some (x,u)->next (a.put o.dst (resV Ag)) w':=by
     intro y hy bIF heq;obtain⟨e1,e2⟩:=Prod.mk.inj (Option.some.inj heq);refine hn ρ2 (resV Ag) w' ?_;rw[<-e1,<-e2,mH,<-aXM,<-Td];exact Zs.pure hd hy bIF
    match bIL:Ag,Jd,hval,wK with
    | [v],Jd,hval,wK =>
     match ht:(takeAll keep id Sg).1,Jd with
     | [y],_ =>
      rw[ht]at he hval;obtain⟨h1,h2⟩:=hval 0 y v rfl rfl;exact wK (.v y) h1 h2 he
    | [],Jd,hval,wK =>
     match ht:(takeAll keep id Sg).1,Jd with
     | [],_ =>
      rw[ht]at he;exact wK (.Ph []) ⟨#[],rfl,rfl,fun i y v hy=>by simp at hy⟩ (by simp[refs]) he
    |v1 :: v2 :: vr,Jd,hval,wK =>
     match ht:(takeAll keep id Sg).1,Jd with
     |y1 :: y2 :: yr,Jd =>
      rw[ht]at he hval;refine wK (.Ph (y1 :: y2 :: yr)) ⟨(v1 :: v2 :: vr).toArray,rfl,by simpa using Jd,fun i y v hy hv=>(hval i y v hy (by simpa using hv)).1⟩ ?_ he;intro j hj;obtain⟨y,hy,hj⟩:=List.mem_flatMap.1 hj;obtain⟨i,hi⟩:=bYJ hy;obtain⟨v,hv⟩:=cK (l:=v1 :: v2 :: vr) (i:=i) (by have:=bJ hi;omega);exact(hval i y v hi hv).2 j hj
theorem aMF(h:jT E X w0 ρ al fr hp a w)(hd:kG E.nt o=true)(hC:lZ P E)(An:∀j,j<8->¬al (id+j)){fo:Operand}{args:Array Operand}{yP:Array TypeId}(ho:o.op=.call ⟨.value fo,args,yP⟩)(he:sV E id o (evA E fr) hp=some (x,u)):Uc P E X w0 al fr hp a w o id x u:=by
 obtain⟨args⟩:=args;unfold sV effK at he;rw[ho]at he;simp only at he;split at he
 case h_2=>cases he
 rename_i f bGG;have hf:a.eval fo=.func (.func f) #[] #[]:=by
  have hz:=(h.ev fo).1;unfold funOf at bGG;split at bGG
  ·rename_i f' jO;cases bGG;rw[jO]at hz;exact hz.1
  ·cases bGG
 split at he
 ·rename_i gx vs aXX;obtain⟨bTY,he⟩:=Ni he;exact(aRU h hd hC hf ho aXX bTY he).step
 split at he
 case h_2=>exact eff_callIO h hd hC An hf ho ‹_› he
 rename_i bJQ;simp only[callK,Ft]at he;generalize keepOf E o=keep at he;split at he
 ·cases he
 ·rename_i ds bAV;split at he
  ·cases he
  ·rename_i gd rs aWY;obtain⟨bAS,he⟩:=Ni he;cases Wt:bXS rs.length 8 with
   |false=>rw[Wt]at he;cases he
   |true =>
   rw[Wt]at he;simp only[cond_true]at he;have Wt:rs.length<=8:=bZF Wt;obtain⟨aLG,aLJ⟩:=hC.c f ds gd rs bJQ aWY bAS;obtain⟨U,hU⟩:∃U,U=aAS (args.map (evA E fr)):=⟨_,rfl⟩;have aOZ:Cons U:=by rw[hU];exact Xw _
   have hY:∀b,XO X ρ (applyUps U hp) b->b<w.heap.size:=by
    rintro b (hb |⟨i,bl,h1,h2⟩)
    ·have:=Old.Vz (h.x0 b hb);have:=h.below.size;omega
    ·have:=h.jW (iK aOZ h1);omega
   have hG:GlobOk E.glob (XO X ρ (applyUps U hp)) w:=by
    intro g k ns hg;obtain⟨h1,h2,h3⟩:=h.Th g k ns hg;exact⟨h1,fun ho=>h2 (ho.imp (fun h=>h) (aPE.of_cons aOZ)),h3.later (jB.cons aOZ)⟩
   have bAX:ds.length=args.length:=by have:=Bf bAV;simpa using this
   have aLI:=aLG (XO X ρ (applyUps U hp)) w (args.map a.eval) hY hG (by simp[bAX]) (fun i d v hi hv=>by
    obtain⟨y,aKQ,aWO⟩:=Wg bAV i d hi;simp only[bXM,bYG]at aKQ hv;obtain⟨z,hz,rfl⟩:=aKQ;obtain⟨z',aWN,rfl⟩:=hv;rw[hz]at aWN;cases aWN;have jO:=h.ev z;refine Qh h aOZ jO.1 (fun i hi=>?_) aWO;rw[hU];exact Zm (List.mem_map.2 ⟨z,bXQ hz,rfl⟩) hi)
   have iC:(execOp a.eval o).run P w=.ok (.enter f (args.map a.eval).toArray) w:=by
    unfold execOp;rw[ho];simp only[resolve,hf,Deferred.ofValue,Sem.run_bind,Sem.run_pure,Result.andThen_ok,invoke];rw[<-aLJ];congr 1;simp
   intro next Q hn;unfold Oper.wp;rw[iC];simp only[Oper.upon_enter];refine aLI.mono ?_;rintro e w' ⟨Ag,rfl,aYE,g,bJU,aLB,bDV⟩;simp only;obtain⟨U',bVA,bUW⟩:∃U',Cons U'/\(bif rs.any shares then(List.flatMap refs (args.map (evA E fr))).map fun i=>((i,none):Nat×Option mI)else [])=U'/\(∀i,i∈U'.map (·.1)->i∈U.map (·.1)):=by
    cases bIX:rs.any shares with
    |true=>exact⟨U,aOZ,by rw[hU];rfl,fun _ h=>h⟩
    |false=>exact⟨[],(fun p hp=>by cases hp),rfl,fun i hi=>by cases hi⟩
   obtain⟨aYB,hUsub⟩:=bUW;rw[aYB]at he;have h0:=h.cons bVA;obtain⟨yR,Td⟩:∃yR,yR=applyUps (takeAll keep id rs).2 (applyUps U' hp):=⟨_,rfl⟩;obtain⟨ρ2,Gg⟩:∃ρ2:Nat->Nat,ρ2=fun j=>if id<=j/\j<id+8 then g (j-id)else ρ j:=⟨_,rfl⟩
   have Cw:∀i,al i->¬(id<=i/\i<id+8):=fun i hi hr=>An (i-id) (by omega) (by rw[show id+(i-id)=i by omega];exact hi)
   have xE:∀j,yR j=match (if id<=j then rs[j-id]? else none)with
     |some (.own e k ns)=>if keep=true then some ⟨e,.ints k ns⟩else applyUps U' hp j
     |_=>applyUps U' hp j:=fun j=>by rw[Td];exact takeAll_ups keep rs id _ j
   have Wq:∀j,¬al j->applyUps U' hp j=none:=by
    intro j hj;cases hq:applyUps U' hp j with
    |none=>rfl
    |some b=>exact absurd (h0.alh j b hq) hj
   have tY:∀j b,yR j=some b->¬al j->∃e k ns,id<=j/\rs[j-id]?=some (.own e k ns)/\keep=true/\b=⟨e,.ints k ns⟩:=by
    intro j b hj tE;rw[xE]at hj;split at hj
    ·rename_i e k ns hq;split at hj
     ·rename_i hk;cases hj;split at hq
      ·exact⟨e,k,ns,‹_›,hq,hk,rfl⟩
      ·cases hq
     ·rw[Wq j tE]at hj;cases hj
    ·rw[Wq j tE]at hj;cases hj
   have Tf:=h0.called (ρ':=ρ2) (hp':=yR) (al':=qU al id) aYE (fun _ h=>.inl h)
    (fun i hi=>by
     refine⟨by rw[Gg];simp only;rw[if_neg (Cw i hi)],?_⟩;rw[xE];split
     ·rename_i e k ns hq;split at hq
      ·exact absurd ⟨‹_›,by have:=bJ hq;omega⟩ (Cw i hi)
      ·cases hq
     ·rfl)
    (fun j b hj tE=>by
     obtain⟨e,k,ns,h1,h2,h3,rfl⟩:=tY j b hj tE;have jM:=bJ h2;obtain⟨v,hv⟩:=cK (l:=Ag) (i:=j-id) (by omega);obtain⟨arr,cap,_,Ao,hw,h4,aYF,h5,h6⟩:=bDV (j-id) _ v h2 hv;have e1:ρ2 j=g (j-id):=by rw[Gg];simp only;rw[if_pos ⟨h1,by omega⟩]
     exact⟨.inr ⟨h1,by omega⟩,by rw[e1];exact Ao,fun Y=>⟨arr,by rw[e1];exact hw,bYC h4 aYF,h6⟩⟩)
    (fun i j b c hi hj bKQ bKP e=>by
     obtain⟨e1,k1,aDG,h1,h2,h3,_⟩:=tY i b hi bKQ;obtain⟨e2,k2,bRB,h4,h5,h6,_⟩:=tY j c hj bKP;have l1:=bJ h2;have l2:=bJ h5;rw[Gg]at e;simp only at e;rw[if_pos ⟨h1,by omega⟩,if_pos ⟨h4,by omega⟩]at e;have:=aLB _ _ _ _ h2 h5 rfl rfl e;omega)
   obtain⟨Zs,bJK⟩:=Tf;have aXS:∀{i:Nat} (d:D) (v:Value),rs[i]?=some d->mA d=false->oW (fun b=>XO X ρ (applyUps U hp) b\/∃(j:Nat) (d':D),rs[j]?=some d'/\mA d'=true/\g j=b) w' d v->oW (XO X ρ2 yR) w' d v:=by
    intro i d v hi ho hr;cases bIX:shares d with
    |false=>exact hr.any bIX ho
    |true =>
     have Jt:rs.any shares=true:=List.any_eq_true.2 ⟨d,bXQ hi,bIX⟩;have bUY:U'=U:=by
      rw[Jt]at aYB;rw[<-aYB,hU];rfl
     refine hr.later ⟨bXK _,fun b _ hx=>⟨rfl,fun hb=>hx ?_⟩⟩;rcases hb with hb |⟨j,bl,h7,h8⟩
     ·exact .inl (.inl hb)
     ·by_cases Pq:al j
      ·have h9:applyUps U' hp j=some bl:=by
        rw[<-h7,xE];split
        ·rename_i e k ns hq;split at hq
         ·exact absurd ⟨‹_›,by have:=bJ hq;omega⟩ (Cw j Pq)
         ·cases hq
        ·rfl
       have e2:ρ2 j=ρ j:=by rw[Gg];simp only;rw[if_neg (Cw j Pq)]
       exact .inl (.inr ⟨j,bl,by rw[<-bUY];exact h9,by rw[<-e2];exact h8⟩)
      ·obtain⟨e,k,ns,h1,h2,h3,rfl⟩:=tY j bl h7 Pq;have jM:=bJ h2;refine .inr ⟨j-id,_,h2,rfl,?_⟩;rw[Gg]at h8;simp only at h8;rw[if_pos ⟨h1,by omega⟩]at h8;exact h8
   have Zt:∀(i:Nat) (d:D) (v:Value),rs[i]?=some d->Ag[i]?=some v->Gs ρ2 yR (XO X ρ2 yR) w' (takeIn keep (id+i) d).1 v/\∀j∈refsV (takeIn keep (id+i) d).1,qU al id j:=by
    intro i d v hi hv;have hg:=bDV i d v hi hv;have bTS:=bJ hi;cases d with
    |own e k ns =>
     obtain⟨arr,cap,rfl,Ao,hw,h4,aYF,h5,h6⟩:=hg;have bJD:¬X (g i):=fun hx=>by have:=Old.Vz (h.x0 _ hx);have:=h.below.size;omega
     cases keep with
     |true =>
      have e1:ρ2 (id+i)=g i:=by rw[Gg];simp only;rw[if_pos ⟨by omega,by omega⟩];congr 1;omega
      refine⟨⟨cap,by rw[e1],h4,fun blk k1 aDG hb hk=>?_⟩,fun j hj=>?_⟩
      ·rw[xE,aT,show id+i-id=i by omega,hi]at hb;simp only[if_true]at hb;cases hb;cases hk;exact⟨rfl,h5,by rw[e1];unfold nG;rw[hw];exact aYF⟩
      ·simp only[takeIn,cond_true,refsV,refsL,bYA]at hj;subst hj;exact .inr ⟨by omega,by omega⟩
     |false =>
      refine⟨⟨_,cap,rfl,h4,fun j n hj=>⟨g i,0,rfl,(Array.getElem?_eq_some_iff.1 hw).1,?_,?_⟩⟩,fun j hj=>by simp[takeIn,refsV,refsL]at hj⟩
      ·rintro (hx |⟨j',bl,h7,h8⟩)
       ·exact bJD hx
       ·by_cases Pq:al j'
        ·have:yR j'=applyUps U' hp j':=by
          rw[xE];split
          ·simp
          ·rfl
         rw[this]at h7;have:=h0.jW h7;have e2:ρ2 j'=ρ j':=by rw[Gg];simp only;rw[if_neg (Cw j' Pq)]
         omega
        ·obtain⟨_,_,_,_,_,hk,_⟩:=tY j' bl h7 Pq;cases hk
      ·rw[bXL,cell_of_row w' (g i) j arr e (0,0) hw];exact h6 j n hj
    |s x=>exact⟨aXS _ v hi rfl hg,fun j hj=>by simp[takeIn,refsV,refsL]at hj⟩
    |rows sz n f=>exact⟨aXS _ v hi rfl hg,fun j hj=>by simp[takeIn,refsV,refsL]at hj⟩
    |agg cs=>exact⟨aXS _ v hi rfl hg,fun j hj=>by simp[takeIn,refsV]at hj⟩
    |io=>exact hg.elim
    |back=>exact hg.elim
   have Jd:(takeAll keep id rs).1.length=Ag.length:=by rw[Ax];exact bJU
   have hval:∀(i:Nat) (y:V) (v:Value),(takeAll keep id rs).1[i]?=some y->Ag[i]?=some v->Gs ρ2 yR (XO X ρ2 yR) w' y v/\∀j∈refsV y,qU al id j:=by
    intro i y v hy hv;obtain⟨d,Bm⟩:=cK (l:=rs) (i:=i) (by have:=bJ hv;omega);rw[Ay keep rs id i d Bm]at hy;cases hy;exact Zt i d v Bm hv
   have wK:∀(y:A),zY ρ2 yR (XO X ρ2 yR) w' y (resV Ag)->(∀j∈refs y,qU al id j)->some (y,U' ++ (takeAll keep id rs).2)=some (x,u)->next (a.put o.dst (resV Ag)) w':=by
    intro y hy bIF heq;obtain⟨e1,e2⟩:=Prod.mk.inj (Option.some.inj heq);refine hn ρ2 (resV Ag) w' ?_;rw[<-e1,<-e2,mH,<-Td];exact Zs.pure hd hy bIF
   match bIL:Ag,Jd,hval,wK with
   | [v],Jd,hval,wK =>
    match ht:(takeAll keep id rs).1,Jd with
    | [y],_ =>
     rw[ht]at he hval;obtain⟨h1,h2⟩:=hval 0 y v rfl rfl;exact wK (.v y) h1 h2 he
   | [],Jd,hval,wK =>
    match ht:(takeAll keep id rs).1,Jd with
    | [],_ =>
     rw[ht]at he;exact wK (.Ph []) ⟨#[],rfl,rfl,fun i y v hy=>by simp at hy⟩ (by simp[refs]) he
   |v1 :: v2 :: vr,Jd,hval,wK =>
    match ht:(takeAll keep id rs).1,Jd with
    |y1 :: y2 :: yr,Jd =>
     rw[ht]at he hval;refine wK (.Ph (y1 :: y2 :: yr)) ⟨(v1 :: v2 :: vr).toArray,rfl,by simpa using Jd,fun i y v hy hv=>(hval i y v hy (by simpa using hv)).1⟩ ?_ he;intro j hj;obtain⟨y,hy,hj⟩:=List.mem_flatMap.1 hj;obtain⟨i,hi⟩:=bYJ hy;obtain⟨v,hv⟩:=cK (l:=v1 :: v2 :: vr) (i:=i) (by have:=bJ hi;omega);exact(hval i y v hi hv).2 j hj
theorem Yv(h:jT E X w0 ρ al fr hp a w)(hd:kG E.nt o=true)(hT:qA P E.T)(hC:lZ P E)(An:∀j,j<8->¬al (id+j))(he:sV E id o (evA E fr) hp=some (x,u)):Uc P E X w0 al fr hp a w o id x u:=by
 have Dk:=he;unfold sV effK at he;split at he
 ·exact(Xi h hd (.inl ‹_›) Dk).step
 ·exact(Xi h hd (.inr ‹_›) Dk).step
 ·exact(aMC h hd ‹_› Dk).step
 ·exact(aGL h hd hT An ‹_› Dk).step
 ·exact(aRV h hd An ‹_› Dk).step
 ·exact(aGJ h hd hT ‹_› Dk).step
 ·exact(Nm h hd hT An ‹_› Dk).step
 ·exact(aMD h hd hT ‹_› Dk).step
 ·exact(aGF h hd hT ‹_› Dk).step
 ·exact(aGK h hd hT ‹_› Dk).step
 ·exact(aMB h hd ‹_› Dk).step
 ·exact(Xk h hd hT ‹_› Dk).step
 ·exact(Pu h hd hT An ‹_› Dk).step
 ·exact(aGG h hd hT ‹_› Dk).step
 ·exact(Pw h hd hT ‹_› Dk).step
 ·exact(aGI h hd hT ‹_› Dk).step
 ·exact(Pv h hd hT ‹_› Dk).step
 ·exact(aGH h hd hT ‹_› Dk).step
 ·exact(Xj h hd ‹_› Dk).step
 ·exact aMF h hd hC An ‹_› Dk
 ·rename_i b args yP ho;have hb:=he;unfold builtinK at hb;split at hb
  ·exact(aRT h hd hT ho Dk).step
  ·exact(Nl h hd (.inl rfl) ho Dk).step
  ·exact(Nl h hd (.inr rfl) ho Dk).step
  ·exact(aAE h hd hT An ho Dk).step
  ·exact(aME h hd hT ho Dk).step
  ·cases hb
 ·cases he
end
end AI
namespace AI
open Go Go.RowKit
section
variable {hp hp':Nat->Option mI}
theorem Bo{x:A}(h:∀i∈refs x,hp i=hp' i):cellsOf hp x=cellsOf hp' x:=by
 unfold cellsOf;split
 ·rfl
 ·rfl
 ·rw[h _ (by simp[refs,refsV,refsL])]
 ·rw[h _ (by simp[refs,refsV,refsL])]
 ·rfl
theorem aBV{x:A}(h:∀i∈refs x,hp i=hp' i):toD hp x=toD hp' x:=by
 unfold toD;split
 ·rfl
 ·rfl
 ·rfl
 ·rw[h _ (by simp[refs,refsV,refsL])]
 ·rw[h _ (by simp[refs,refsV,refsL])]
 ·rfl
theorem Mu{k:IntKind}{x:A}(h:∀i∈refs x,hp i=hp' i):intsOf hp k x=intsOf hp' k x:=by
 unfold intsOf;split
 ·rfl
 ·rfl
 ·rw[h _ (by simp[refs,refsV,refsL])]
 ·rw[h _ (by simp[refs,refsV,refsL])]
 ·rfl
theorem Mv{R:Type}{t:TI}{wT:Nat}{x:A}{n:Int}{K:A->Option R}(h:∀i∈refs x,hp i=hp' i):idxK hp t wT x n K=idxK hp' t wT x n K:=by
 unfold idxK;split
 ·rfl
 ·rw[h _ (by simp[refs,refsV,refsL])]
 ·rw[h _ (by simp[refs,refsV,refsL])]
 ·rfl
 ·rfl
 ·rfl
 ·rfl
theorem Sr{xs:List A}(h:∀x∈xs,∀i∈refs x,hp i=hp' i):xs.mapM (toD hp)=xs.mapM (toD hp'):=by
 induction xs with
 |nil=>rfl
 |cons x xs ih=>rw[bYE,bYE,aBV (h x (by simp)),ih (fun y hy=>h y (by simp[hy]))]
theorem Hz{R:Type}{place:Nat->Option (Nat×Nat)}{ev Ps:Operand->A}{parts:List (Nat×Operand)}{cs:List S}{u:tH}{K:List S->tH->Option R}
  (he:∀p∈parts,ev p.2=Ps p.2) (h:∀p∈parts,∀i∈refs (ev p.2),hp i=hp' i):fillK hp place ev parts cs u K=fillK hp' place Ps parts cs u K:=by
 induction parts generalizing cs u with
 |nil=>rfl
 |cons p rest ih =>
  obtain⟨i,y⟩:=p;have e1:ev y=Ps y:=he (i,y) (by simp);have e2:cellsOf hp (ev y)=cellsOf hp' (Ps y):=by rw[Bo (h (i,y) (by simp)),e1]
  simp only[fillK,e2];split
  ·split
   ·exact ih (fun p hp=>he p (by simp[hp])) (fun p hp=>h p (by simp[hp]))
   ·rfl
  ·rfl
end
theorem aGS{R:Type}{E:Env}{id:Nat}{keep:Bool}{f:FuncId}{args:List A}{hp hp':Nat->Option mI}{K:A->tH->Option R}(h:∀x∈args,∀i∈refs x,hp i=hp' i) :
  callK E id keep f args hp K=callK E id keep f args hp' K:=by
 unfold callK;rw[Sr h]
theorem aIM{hp hp':Nat->Option mI}{x:A}(h:∀i∈refs x,hp i=hp' i):toIO hp x=toIO hp' x:=by
 unfold toIO;split
 ·rw[h _ (by simp[refs,refsV,refsL])]
 ·rw[h _ (by simp[refs,refsV,refsL])]
 ·rfl
theorem Ob{hp hp':Nat->Option mI}(ps:List Nat):∀{args:List A} (i:Nat),(∀x∈args,∀i∈refs x,hp i=hp' i)->argsIO ps hp i args=argsIO ps hp' i args
 | [],_,_=>rfl
 |x :: args,i,h=>by
  unfold argsIO;rw[aIM (h x (by simp)),aBV (h x (by simp)),Ob ps (i+1) (fun y hy=>h y (by simp[hy]))]
theorem aAO{R:Type}{E:Env}{ps:List Nat}{id:Nat}{keep:Bool}{f:FuncId}{args:List A}{hp hp':Nat->Option mI}{K:A->tH->Option R}(h:∀x∈args,∀i∈refs x,hp i=hp' i) :
  callIO E ps id keep f args hp K=callIO E ps id keep f args hp' K:=by
 unfold callIO;rw[Ob ps 0 h]
theorem Tt{R:Type}{E:Env}{id:Nat}{b:Builtin}{args:List A}{yP:List TypeId}{hp hp':Nat->Option mI}{K:A->tH->Option R}(h:∀x∈args,∀i∈refs x,hp i=hp' i) :
  builtinK E id b args yP hp K=builtinK E id b args yP hp' K:=by
 unfold builtinK;split
 ·rfl
 ·rfl
 ·rfl
 ·rename_i s x t t';split
  ·split
   ·split
    ·split
     ·rw[Mu (h x (by simp))];split
      ·rename_i i n ms hq;rw[h (.v (.one (.buf i n))) (by simp) i (by simp[refs,refsV,refsL])]
      ·rfl
      ·rfl
     ·rfl
    ·rfl
   ·rfl
  ·rfl
 ·rename_i d s t t';split
  ·split
   ·rw[Mu (h s (by simp))];split
    ·rename_i i n ms hq;rw[h (.v (.one (.buf i n))) (by simp) i (by simp[refs,refsV,refsL])]
    ·rename_i i off n ms hq;rw[h (.v (.one (.view i off n))) (by simp) i (by simp[refs,refsV,refsL])]
    ·rfl
   ·rfl
  ·rfl
 ·rfl
theorem xD{α β:Type}{f g:α->β}{o:Option α}(h:∀x,o=some x->f x=g x):o.map f=o.map g:=by
 cases o with
 |none=>rfl
 |some x=>simp[h x rfl]
theorem aMG{R:Type}{E:Env}{id:Nat}{o:Oper}{ev Ps:Operand->A}{hp hp':Nat->Option mI}{K:A->tH->Option R}(he:∀x,x∈o.op.operands.toList->ev x=Ps x)(h:∀x,x∈o.op.operands.toList->∀i∈refs (ev x),hp i=hp' i) :
  effK E id o ev hp K=effK E id o Ps hp' K:=by
 unfold effK;split <;> rename_i ho <;> (try rw[ho]at he h)
 ·rw[he _ (by simp[Op.operands])]
 ·rw[he _ (by simp[Op.operands])]
 ·rw[he _ (by simp[Op.operands]),he _ (by simp[Op.operands]),he _ (by simp[Op.operands])]
 ·rw[Bo (h _ (by simp[Op.operands])),he _ (by simp[Op.operands])]
 ·have e1:∀p∈(‹Array (Nat×Operand)›).toList,p.2∈(‹Array (Nat×Operand)›).toList.map (·.2):=fun p hp=>List.mem_map.2 ⟨p,hp,rfl⟩
  split
  ·exact Hz (fun p hp=>he _ (by simpa [Op.operands] using e1 p hp)) (fun p hp=>h _ (by simpa [Op.operands] using e1 p hp))
  ·exact Hz (fun p hp=>he _ (by simpa [Op.operands] using e1 p hp)) (fun p hp=>h _ (by simpa [Op.operands] using e1 p hp))
  ·rfl
 ·have e1:∀p∈(‹Array (Nat×Operand)›).toList,p.2∈(‹Array (Nat×Operand)›).toList.map (·.2):=fun p hp=>List.mem_map.2 ⟨p,hp,rfl⟩
  split
  ·split
   ·split
    ·exact Hz (fun p hp=>he _ (by simpa [Op.operands] using e1 p hp)) (fun p hp=>h _ (by simpa [Op.operands] using e1 p hp))
    ·rfl
   ·rfl
  ·rfl
 ·rename_i t y;have e1:ev y=Ps y:=he _ (by simp[Op.operands]);have e2:=h y (by simp[Op.operands]);split
  ·rw[<-e1];split
   ·rename_i i off jO;rw[e2 i (by rw[jO];simp[refs,refsV,refsL])]
   ·rename_i i j jO;rw[e2 i (by rw[jO];simp[refs,refsV,refsL])]
   ·rfl
   ·rfl
  ·rfl
 ·rename_i t y z;have e1:ev y=Ps y:=he _ (by simp[Op.operands]);have e3:ev z=Ps z:=he _ (by simp[Op.operands]);have e2:=h y (by simp[Op.operands]);have e4:cellsOf hp (ev z)=cellsOf hp' (Ps z):=by rw[Bo (h z (by simp[Op.operands])),e3]
  split
  ·rw[<-e1,e4,<-e3];split
   ·rename_i i off jO;rw[e2 i (by rw[jO];simp[refs,refsV,refsL])]
   ·rename_i i j jO;rw[e2 i (by rw[jO];simp[refs,refsV,refsL])]
   ·rfl
  ·rfl
 ·rw[he _ (by simp[Op.operands]),he _ (by simp[Op.operands])]
 ·rw[he _ (by simp[Op.operands])]
 ·rw[he _ (by simp[Op.operands])]
 ·rw[he _ (by simp[Op.operands]),he _ (by simp[Op.operands])]
 ·rename_i t y lo hi mx;have e1:ev y=Ps y:=he _ (by simp[Op.operands]);have e2:lo.map ev=lo.map Ps:=xD fun x hx=>he x (by subst hx;simp[Op.operands])
  have e3:hi.map ev=hi.map Ps:=xD fun x hx=>he x (by subst hx;simp[Op.operands])
  have e4:mx.map ev=mx.map Ps:=xD fun x hx=>he x (by subst hx;simp[Op.operands])
  rw[e1,e2,e3,e4]
 ·rw[he _ (by simp[Op.operands])]
 ·rw[he _ (by simp[Op.operands])]
 ·rename_i t y z;have e1:ev y=Ps y:=he _ (by simp[Op.operands]);have e3:ev z=Ps z:=he _ (by simp[Op.operands]);have e2:=h y (by simp[Op.operands]);rw[<-e1,e3];split
  ·split
   ·split
    ·split
     ·rfl
     ·rfl
     ·exact Mv e2
    ·rfl
   ·split
    ·rename_i jO;exact Mv (by rw[jO]at e2;exact e2)
    ·exact Mv (by intro i hi;cases hi)
    ·rfl
   ·rfl
  ·rfl
 ·rw[he _ (by simp[Op.operands]),he _ (by simp[Op.operands])]
 ·rw[he _ (by simp[Op.operands])]
 ·rename_i f args yP;have e1:args.toList.map ev=args.toList.map Ps:=bYU fun x hx=>he x (by simp[Op.operands,Call.operands];exact .inr (by simpa using hx))
  have e0:ev f=Ps f:=he f (by simp[Op.operands,Call.operands]);rw[e0,e1];split
  ·split
   ·rfl
   ·have hx:∀x∈args.toList.map Ps,∀i∈refs x,hp i=hp' i:=by
     intro x hx i hi;rw[<-e1]at hx;obtain⟨y,hy,rfl⟩:=List.mem_map.1 hx;exact h y (by simp[Op.operands,Call.operands];exact .inr (by simpa using hy)) i hi
    split
    ·exact aGS hx
    ·exact aAO hx
  ·rfl
 ·rename_i b args yP;have e1:args.toList.map ev=args.toList.map Ps:=bYU fun x hx=>he x (by simpa [Op.operands,Call.operands] using hx)
  rw[e1];refine Tt ?_;intro x hx i hi;rw[<-e1]at hx;obtain⟨y,hy,rfl⟩:=List.mem_map.1 hx;exact h y (by simpa [Op.operands,Call.operands] using hy) i hi
 ·rfl
end AI
namespace AI
open Go Go.RowKit
inductive Gd where
 |run
 |skip
 |bad
def gd(ops:Array Oper)(o:Oper)(fr:Nat->A):Gd :=
 match o.guard with
 |none=>.run
 |some (j,want)=>match (ops[j]?).bind (·.dst)with
  |some d=>match fr d with
   | .v (.one (.s (.sc (.bool b))))=>if b=want then .run else .skip
   | .Ph []=>.skip
   |_=>.bad
  |none=>.bad
structure Dt where
 i:Nat
 o:Oper
 x:A
 u:tH
 t:List Nat
def Al(E:Env)(ops:Array Oper)(base:Nat)(d:Dt)(st gH:St):Prop :=
 ops[d.i]?=some d.o/\kG E.nt d.o=true /\
  ((gd ops d.o st.fr=.run/\sV E (base+8*d.i) d.o (evA E st.fr) st.hp=some (d.x,d.u)/\d.t=uK d.o (evA E st.fr) d.u)\/(gd ops d.o st.fr=.skip/\d.x=.Ph []/\d.u=[]/\d.t=[])) /\
  gH=after d.o st d.x d.u
def zX(E:Env)(ops:Array Oper)(base:Nat):List Dt->St->St->Prop
 | [],st,gH=>st=gH
 |d :: l,st,gH=>∃st1,Al E ops base d st st1/\zX E ops base l st1 gH
def Dt.told(d:Dt):Rec:=⟨d.i,d.o,d.t,d.u.map (·.1)⟩
def Ey(ops:Array Oper)(d d':Dt):Prop:=indep ops d.told d'.i d'.o d'.t (d'.u.map (·.1))=true
theorem lD{R:Type}(len:Nat)(lo hi mx:Option A)(K:Nat->Nat->Option R):sliceK len lo hi mx K=(sliceK len lo hi mx fun l h=>some (l,h)).bind fun p=>K p.1 p.2:=by
 unfold sliceK;split
 ·split <;> rfl
 ·split
  ·split <;> rfl
  ·rfl
 ·rfl
theorem Iw{R S:Type}(n:Int)(f:Nat->S)(K:S->Option R):∀m j:Nat,splitN n m j (fun i=>K (f i))=(splitN n m j (fun i=>some (f i))).bind K
 |0,_=>rfl
 |m+1,j=>by
  unfold splitN;cases decide (n=(j:Int))with
  |true=>rfl
  |false=>exact Iw n f K m (j+1)
theorem vE{R:Type}(hp:Nat->Option mI)(t:TI)(wT:Nat)(x:A)(n:Int)(K:A->Option R):idxK hp t wT x n K=(idxK hp t wT x n some).bind K:=by
 unfold idxK;split
 ·split
  ·split <;> rfl
  ·rfl
 ·split
  ·split
   ·split <;> rfl
   ·rfl
  ·split <;> rfl
  ·rfl
 ·split
  ·split
   ·split <;> rfl
   ·rfl
  ·rfl
 ·split
  ·split <;> rfl
  ·rfl
 ·split
  ·rename_i id off x len esz' g hk;cases bXS len 8 with
   |true=>exact Iw n (fun j=>A.v (V.one (L.ptr id (off+j*wT)))) K len 0
   |false =>
    simp only[cond_false];split <;> rfl
  ·rfl
 ·split
  ·split
   ·split <;> rfl
   ·rfl
  ·rfl
 ·rfl
theorem aAN{R:Type}(E:Env)(id:Nat)(keep:Bool)(f:FuncId)(args:List A)(hp:Nat->Option mI)(K:A->tH->Option R):callK E id keep f args hp K=(callK E id keep f args hp fun a u=>some (a,u)).bind fun p=>K p.1 p.2:=by
 unfold callK;split
 ·rfl
 ·split
  ·rfl
  ·rename_i g rs _;unfold aO;simp only[Ft];split
   ·cases bXS rs.length 8 with
    |false=>rfl
    |true =>
     simp only[cond_true];split <;> rfl
   ·rfl
theorem Xt{R:Type}(E:Env)(ps:List Nat)(id:Nat)(keep:Bool)(f:FuncId)(args:List A)(hp:Nat->Option mI)(K:A->tH->Option R):callIO E ps id keep f args hp K=(callIO E ps id keep f args hp fun a u=>some (a,u)).bind fun p=>K p.1 p.2:=by
 unfold callIO;split
 ·rfl
 ·generalize (leqN _ _&&_)=bb;cases bb with
  |false=>rfl
  |true =>
   simp only[cond_true];split
   ·rfl
   ·unfold aO;simp only[Ft];split
    ·generalize (bXS _ _&&_&&_)=b2;cases b2 with
     |false=>rfl
     |true =>
      simp only[cond_true];split
      ·rfl
      ·split <;> rfl
    ·rfl
theorem Qb{R:Type}(E:Env)(id:Nat)(b:Builtin)(args:List A)(yP:List TypeId)(hp:Nat->Option mI)(K:A->tH->Option R):builtinK E id b args yP hp K=(builtinK E id b args yP hp fun a u=>some (a,u)).bind fun p=>K p.1 p.2:=by
 unfold builtinK;split
 ·split <;> rfl
 ·split <;> rfl
 ·split <;> rfl
 ·split
  ·split
   ·split
    ·split
     ·split
      ·split
       ·generalize bXP _ _=bb;cases bb with
        |true=>rfl
        |false =>
         simp only[cond_false];split
         ·split <;> rfl
         ·rfl
       ·rfl
      ·split <;> rfl
      ·rfl
     ·rfl
    ·rfl
   ·rfl
  ·rfl
 ·split
  ·split
   ·split
    ·split
     ·split <;> rfl
     ·rfl
    ·split
     ·split <;> rfl
     ·rfl
    ·rfl
   ·rfl
  ·rfl
 ·rfl
theorem qP {R : Type} (E : Env) (id : Nat) (o : Oper) (ev : Operand → A) (hp : Nat → Option mI) (K : A → tH → Option R) : effK E id o ev hp K = (sV E id o ev hp).bind fun p => K p.1 p.2 := by
  unfold sV effK
  split
  · rfl
  · rfl
  · split
    · split
      · rfl
      · rename_i t _ _ _ _; cases t <;> rfl
    · rfl
  · split <;> rfl
  · split
    · split <;> rfl
    · rfl
  · split
    · rw [nW]; conv => rhs; rw [nW]
      rw [bXR]; rfl
    · rw [nW]; conv => rhs; rw [nW]
      rw [bXR]; rfl
    · rfl
  · split
    · split
      · split
        · rw [nW]; conv => rhs; rw [nW]
          rw [bXR]
          congr 1
          funext r
          split
          · split <;> rfl
          · rfl
        · rfl
      · rfl
    · rfl
  · split
    · split
      · split
        · split <;> rfl
        · rfl
      · split <;> rfl
      · split <;> rfl
      · rfl
    · rfl
  · split
    · split
      · split
        · split <;> rfl
        · rfl
      · split
        · split <;> rfl
        · rfl
      · rfl
    · rfl
  · split
    · generalize boolT _ _ = bb
      cases bb with
      | true => simp only [cond_true]; rw [Ih]; conv => rhs; rw [Ih]
                rw [bXR]; rfl
      | false => rfl
    · split
      · split <;> rfl
      · rfl
    · rfl
  · split
    · rw [Li]; conv => rhs; rw [Li]
      rw [bXR]; rfl
    · rfl
  · split
    · rw [Et]; conv => rhs; rw [Et]
      rw [bXR]; rfl
    · rfl
  · split
    · split
      · split
        · split <;> rfl
        · rfl
      · rfl
    · rfl
  · split
    · split
      · split
        · split
          · rw [lD]; conv => rhs; rw [lD]
            rw [bXR]; rfl
          · rfl
        · rw [lD]; conv => rhs; rw [lD]
          rw [bXR]; rfl
        · rw [lD]; conv => rhs; rw [lD]
          rw [bXR]; rfl
        · rw [lD]; conv => rhs; rw [lD]
          rw [bXR]; rfl
        · rfl
      · split
        · split
          · rw [lD]; conv => rhs; rw [lD]
            rw [bXR]; rfl
          · rfl
        · rfl
      · rfl
    · rfl
  · split
    · split
      · split <;> rfl
      · split <;> rfl
      · rfl
    · rfl
  · split
    · split
      · split <;> rfl
      · rfl
    · rfl
  · split
    · split
      · split
        · split
          · rfl
          · rfl
          · rw [vE]; conv => rhs; rw [vE]
            rw [bXR]; rfl
        · rfl
      · split
        · rw [vE]; conv => rhs; rw [vE]
          rw [bXR]; rfl
        · rw [vE]; conv => rhs; rw [vE]
          rw [bXR]; rfl
        · rfl
      · rfl
    · rfl
  · split
    · split
      · split <;> rfl
      · rfl
    · split <;> rfl
    · rfl
  · split
    · split <;> rfl
    · rfl
  · split
    · split
      · unfold aO
        split <;> rfl
      · split
        · exact aAN _ _ _ _ _ _ _
        · exact Xt _ _ _ _ _ _ _ _
    · rfl
  · exact Qb _ _ _ _ _ _ _
  · rfl
theorem aBP(fr:Nat->A)(d:Nat)(b:Bool)(h:fr d=Dh (.bool b)):Ck fr d (Dh (.bool b))=fr:=Vg fr d _ h
theorem Qn{R:Type}(E:Env)(draw:Bool)(ops:Array Oper)(base:Nat)(K:St->Option R)(r:R):∀(l:List Oper) (i:Nat) (qD:List Rec) (st:St),
  (∀(k:Nat) (o:Oper),l[k]?=some o->ops[i+k]?=some o)->opsK E draw ops base l i qD st K=some r ->
  ∃ds gH,K gH=some r/\zX E ops base ds st gH/\ds.map (·.i)=List.range' i l.length /\
   (draw=true->(∀rc∈qD,∀d∈ds,indep ops rc d.i d.o d.t (d.u.map (·.1))=true)/\bZG (Ey ops) ds/\∀d∈ds,zK d.i d.o=true)
 | [],i,qD,st,_,h=>⟨[],st,h,rfl,rfl,fun _=>⟨fun _ _ _ hd=>(by cases hd),List.Pairwise.nil,fun _ hd=>(by cases hd)⟩⟩
 |o :: l,i,qD,st,hl,h=>by
  have hi:ops[i]?=some o:=by simpa using hl 0 o rfl
  have bGD:∀(k:Nat) (o':Oper),l[k]?=some o'->ops[i+1+k]?=some o':=fun k o' hk=>by have:=hl (k+1) o' (by simpa using hk);rwa [show i+(k+1)=i+1+k by omega]at this
  unfold opsK at h;cases bKB:kG E.nt o&&(!draw||zK i o)with
  |false=>rw[bKB]at h;cases h
  |true =>
   rw[bKB]at h;simp only[cond_true]at h;obtain⟨aGB,bGI⟩:=(bXN _ _).mp bKB;have go:∀(x:A) (u:tH) (t:List Nat),Al E ops base ⟨i,o,x,u,t⟩ st (after o st x u) ->
     (bif !draw||qD.all fun r=>indep ops r i o t (u.map (·.1))then opsK E draw ops base l (i+1) (⟨i,o,t,u.map (·.1)⟩ :: qD) (after o st x u) K else none)=some r ->
     ∃ds gH,K gH=some r/\zX E ops base ds st gH/\ds.map (·.i)=List.range' i (o :: l).length /\
      (draw=true->(∀rc∈qD,∀d∈ds,indep ops rc d.i d.o d.t (d.u.map (·.1))=true)/\bZG (Ey ops) ds/\∀d∈ds,zK d.i d.o=true):=by
    intro x u t hs hk;cases hc:!draw||qD.all fun r=>indep ops r i o t (u.map (·.1))with
    |false=>rw[hc]at hk;cases hk
    |true =>
     rw[hc]at hk;simp only[cond_true]at hk;obtain⟨ds,gH,h1,h2,h3,h4⟩:=Qn E draw ops base K r l (i+1) _ _ bGD hk;refine⟨⟨i,o,x,u,t⟩ :: ds,gH,h1,⟨_,hs,h2⟩,by simp[h3,List.range'_succ],fun Pp=>?_⟩;obtain⟨h5,h6,h7⟩:=h4 Pp;subst Pp;simp only[bZH,bZI]at hc bGI;refine⟨fun rc bNP d hd=>?_,List.pairwise_cons.2 ⟨fun d hd=>(show indep ops ⟨i,o,t,u.map (·.1)⟩ d.i d.o d.t (d.u.map (·.1))=true from h5 _ (bXO ..) d hd),h6⟩,fun d hd=>?_⟩
     ·rcases List.mem_cons.1 hd with rfl |hd
      ·exact List.all_eq_true.1 hc rc bNP
      ·exact h5 rc (by simp[bNP]) d hd
     ·rcases List.mem_cons.1 hd with rfl |hd
      ·exact bGI
      ·exact h7 d hd
   split at h
   ·rename_i hg;rw[qP]at h;obtain⟨⟨x,u⟩,he,h⟩:=Option.bind_eq_some_iff.1 h;exact go x u _ ⟨hi,aGB,.inl ⟨by unfold gd;rw[hg],he,rfl⟩,rfl⟩ h
   ·rename_i j want hg;split at h
    ·rename_i d hd;split at h
     ·rename_i b hb;have e0:Ck st.fr d (Dh (.bool b))=st.fr:=aBP st.fr d b hb;have bAS:∀w,(b==want)=w->gd ops o st.fr=if w=true then .run else .skip:=by
       intro w hw;unfold gd;rw[hg];simp only[hd,hb];subst hw
       by_cases aRG:b=want <;> simp[aRG]
      have key:(bif b==want then
        effK E (base+8*i) o (evA E st.fr) st.hp fun a u =>
         bif !draw||qD.all fun r=>indep ops r i o (uK o (evA E st.fr) u) (u.map (·.1))then opsK E draw ops base l (i+1) (⟨i,o,uK o (evA E st.fr) u,u.map (·.1)⟩ :: qD) (after o st a u) K else none
       else bif !draw||qD.all fun r=>indep ops r i o [] []then opsK E draw ops base l (i+1) (⟨i,o,[],[]⟩ :: qD) (after o st (.Ph []) []) K else none)=some r:=by
       cases b
       ·simp only[cond_false,e0]at h;exact h
       ·simp only[cond_true,e0]at h;exact h
      cases aRG:b==want with
      |true =>
       rw[aRG]at key;simp only[cond_true]at key;rw[qP]at key;obtain⟨⟨x,u⟩,he,key⟩:=Option.bind_eq_some_iff.1 key;exact go x u _ ⟨hi,aGB,.inl ⟨by rw[bAS true aRG];rfl,he,rfl⟩,rfl⟩ key
      |false =>
       rw[aRG]at key;simp only[cond_false]at key;exact go (.Ph []) [] [] ⟨hi,aGB,.inr ⟨by rw[bAS false aRG];rfl,rfl,rfl,rfl⟩,rfl⟩ key
     ·rename_i hb;exact go (.Ph []) [] [] ⟨hi,aGB,.inr ⟨by unfold gd;rw[hg];simp only[hd,hb],rfl,rfl,rfl⟩,rfl⟩ h
     ·cases h
    ·cases h
end AI
namespace AI
open Go Go.RowKit
theorem Cy{xs ys:List Nat}(h:Py xs ys=true){i:Nat}(hx:i∈xs):i ∉ ys:=by
 intro hy;have:=List.all_eq_true.1 h i hx;simp at this;exact this hy
theorem iZ{u:tH}{hp:Nat->Option mI}{i:Nat}(h:i ∉ u.map (·.1)):applyUps u hp i=hp i:=by
 induction u generalizing hp with
 |nil=>rfl
 |cons p u ih =>
  obtain⟨j,b⟩:=p;simp only[bXJ,bYO,not_or]at h;rw[applyUps,ih h.2,gJ _ _ h.1]
theorem Dv{u:tH}{hp hp':Nat->Option mI}{i:Nat}(h:i∈u.map (·.1)):applyUps u hp i=applyUps u hp' i:=by
 induction u generalizing hp hp' with
 |nil=>cases h
 |cons p u ih =>
  obtain⟨j,b⟩:=p;simp only[applyUps]
  by_cases hi:i∈u.map (·.1)
  ·exact ih hi
  ·have e:i=j:=by simpa [hi] using h
   subst e;rw[iZ hi,iZ hi,dS,dS]
theorem Qd{u v:tH}{hp:Nat->Option mI}(h:Py (u.map (·.1)) (v.map (·.1))=true):applyUps u (applyUps v hp)=applyUps v (applyUps u hp):=by
 funext i
 by_cases hu:i∈u.map (·.1)
 ·have hv:i ∉ v.map (·.1):=Cy h hu;rw[iZ hv];exact Dv hu
 ·rw[iZ hu]
  by_cases hv:i∈v.map (·.1)
  ·exact Dv hv
  ·rw[iZ hv,iZ hv,iZ hu]
theorem aQE{o:Oper}{x:A}{fr:Nat->A}{t:Nat}(h:o.dst≠some t):Ei o x fr t=fr t:=by
 unfold Ei;cases hd:o.dst with
 |some d=>exact gJ _ _ (fun e=>h (by rw[hd,e]))
 |none=>rfl
theorem aFQ{o o':Oper}{x x':A}{fr:Nat->A}(h:∀d,o.dst=some d->o'.dst≠some d):Ei o x (Ei o' x' fr)=Ei o' x' (Ei o x fr):=by
 unfold Ei;cases hd:o.dst with
 |none=>rfl
 |some d =>
  cases Bm:o'.dst with
  |none=>rfl
  |some d' =>
   have Dq:d≠d':=fun e=>h d hd (by rw[Bm,e])
   funext t;simp only
   by_cases h1:t=d
   ·subst h1;rw[dS,gJ _ _ Dq,dS]
   ·rw[gJ _ _ h1]
    by_cases h2:t=d'
    ·subst h2;rw[dS,dS]
    ·rw[gJ _ _ h2,gJ _ _ h2,gJ _ _ h1]
def bAC(ops:Array Oper)(p q:Dt):Prop:=p.o.apart ops q.o=true/\Py (p.u.map (·.1)) q.t=true/\Py (q.u.map (·.1)) p.t=true
theorem bAC.symm{ops:Array Oper}{p q:Dt}(h:bAC ops p q):bAC ops q p:=by
 refine⟨?_,h.2.2,h.2.1⟩;obtain⟨h1,h2,h3⟩:=Oper.apart_spec h.1;unfold Oper.apart;rw[bXN];constructor
 ·cases hq:q.o.dst with
  |none=>rfl
  |some d =>
   simp only[bXN,bYM,bne_iff_ne,ne_eq];refine⟨by simpa using h3 d hq,fun hp=>?_⟩;exact h2 d hp hq
 ·cases hp:p.o.dst with
  |none=>rfl
  |some d=>simpa using h1 d hp
section
variable {E:Env} {ops:Array Oper} {base:Nat}
theorem Sq{o:Oper}{t:Tmp}(h:Operand.tmp t∈o.op.operands.toList):t∈o.looksAt ops:=by
 unfold Oper.looksAt;exact List.mem_append.2 (.inl (List.mem_filterMap.2 ⟨_,h,rfl⟩))
theorem aLW{fr bBC:Nat->A}{o:Oper}(h:∀t,t∈o.looksAt ops->fr t=bBC t){x:Operand}(hx:x∈o.op.operands.toList):evA E fr x=evA E bBC x:=by
 cases x with
 |tmp t=>exact h t (Sq hx)
 |_=>rfl
theorem aDZ{fr bBC:Nat->A}{o:Oper}(h:∀t,t∈o.looksAt ops->fr t=bBC t):gd ops o fr=gd ops o bBC:=by
 unfold gd;cases hg:o.guard with
 |none=>rfl
 |some p =>
  obtain⟨j,want⟩:=p;simp only;cases hd:(ops[j]?).bind (·.dst)with
  |none=>rfl
  |some d =>
   have:fr d=bBC d:=h d (by
    unfold Oper.looksAt;rw[hg];exact List.mem_append.2 (.inr (by simp[hd])))
   simp only[this]
theorem Al.same{p:Dt}{st st1:St}(bAT:∀t,t∈p.o.looksAt ops->st.fr t=st1.fr t)(Ym:∀i,i∈p.t->st.hp i=st1.hp i){bFN:St}(h:Al E ops base p st1 bFN):Al E ops base p st (after p.o st p.x p.u):=by
 obtain⟨h1,h2,h3,_⟩:=h;refine⟨h1,h2,?_,rfl⟩;rcases h3 with ⟨hg,he,ht⟩ |⟨hg,hx,hu,ht⟩
 ·have jO:∀x,x∈p.o.op.operands.toList->evA E st1.fr x=evA E st.fr x:=fun x hx=>(aLW (ops:=ops) bAT hx).symm
  refine .inl ⟨by rw[aDZ (ops:=ops) bAT];exact hg,?_,?_⟩
  ·rw[<-he];exact(aMG jO (fun x hx i hi=>(Ym i (by rw[ht];exact List.mem_append.2 (.inl (List.mem_flatMap.2 ⟨x,hx,hi⟩)))).symm)).symm
  ·rw[ht];unfold uK;congr 1;rw[cAC,cAC];congr 1;exact bYU fun x hx=>by rw[jO x hx]
 ·exact .inr ⟨by rw[aDZ (ops:=ops) bAT];exact hg,hx,hu,ht⟩
theorem Dw{q:Dt}{st:St}{o:Oper}(h:∀d,q.o.dst=some d->d ∉ o.looksAt ops):∀t,t∈o.looksAt ops->st.fr t=(after q.o st q.x q.u).fr t:=by
 intro t ht;exact(aQE (fun e=>h t e ht)).symm
theorem aID{p:Dt}{st gH:St}(h:Al E ops base p st gH):∀i,i∈p.u.map (·.1)->i∈p.t:=by
 intro i hi;obtain⟨_,_,h3,_⟩:=h;rcases h3 with ⟨_,_,ht⟩ |⟨_,_,hu,_⟩
 ·rw[ht];exact List.mem_append.2 (.inr hi)
 ·rw[hu]at hi;cases hi
theorem zX.swap{p q:Dt}{l:List Dt}{st bBR:St}(hi:bAC ops q p)(h:zX E ops base (q :: p :: l) st bBR):zX E ops base (p :: q :: l) st bBR:=by
 obtain⟨st1,hq,bFN,hp,hl⟩:=h;obtain⟨a1,a2,a3⟩:=Oper.apart_spec hi.1;have e1:st1=after q.o st q.x q.u:=hq.2.2.2;have e2:bFN=after p.o st1 p.x p.u:=hp.2.2.2;have hp':Al E ops base p st (after p.o st p.x p.u):=by
  refine Al.same (st1:=st1) ?_ ?_ hp
  ·rw[e1];exact Dw a1
  ·intro i aDP;rw[e1];exact(iZ (fun hm=>Cy hi.2.1 hm aDP)).symm
 have aDL:Al E ops base q (after p.o st p.x p.u) (after q.o (after p.o st p.x p.u) q.x q.u):=by
  refine Al.same (st1:=st) ?_ ?_ hq
  ·intro t ht;exact(Dw a3 t ht).symm
  ·intro i aDP;exact iZ (fun hm=>Cy hi.2.2 hm aDP)
 have e3:after q.o (after p.o st p.x p.u) q.x q.u=bFN:=by
  rw[e2,e1];unfold after;simp only;rw[aFQ (o:=q.o) (o':=p.o) (fun d hd=>a2 d hd),Qd];have hu:=aID hp;unfold Py;rw[List.all_eq_true];intro i aDP;have:=Cy hi.2.1 aDP;simp only[bYM,List.elem_eq_mem,decide_eq_false_iff_not];exact fun hm=>this (hu i hm)
 exact⟨_,hp',_,aDL,by rw[e3];exact hl⟩
theorem zX.front{p:Dt}{l2:List Dt}{bBR:St}:∀{l1:List Dt} {st:St},(∀q∈l1,bAC ops q p)->zX E ops base (l1 ++ p :: l2) st bBR->zX E ops base (p :: (l1 ++ l2)) st bBR
 | [],st,_,h=>h
 |q :: l1,st,hi,h=>by
  obtain⟨st1,hq,h⟩:=h;have ih:=zX.front (fun q' aDL=>hi q' (bXX _ aDL)) h;exact zX.swap (hi q (bXO ..)) ⟨st1,hq,ih⟩
end
def aSO(base:Nat)(done:Nat->Prop)(id:Nat):Prop:=id<base\/∃i,done i/\base+8*i<=id/\id<base+8*i+8
section
variable {P:Program} {E:Env} {X:Nat->Prop} {w0:Old} {ops:Array Oper} {base:Nat}
theorem jT.sZ{ρ:Nat->Nat}{al al':Nat->Prop}{fr:Nat->A}{hp:Nat->Option mI}{a:Act}{w:World}(h:jT E X w0 ρ al fr hp a w)(tE:∀i,al i->al' i):jT E X w0 ρ al' fr hp a w :=
 { fr:=h.fr,sz:=h.sz,nod:=h.nod,blk:=h.blk,inj:=h.inj,alh:=fun i b hb=>tE i (h.alh i b hb),alr:=fun t i hi=>tE i (h.alr t i hi),below:=h.below,x0:=h.x0,glob:=h.glob,mg:=h.mg,al0:=fun i hi=>tE i (h.al0 i hi),rB:=h.rB }
theorem Qy{ρ:Nat->Nat}{al:Nat->Prop}{fr:Nat->A}{hp:Nat->Option mI}{a:Act}{w:World}(h:jT E X w0 ρ al fr hp a w){o:Oper} :
  (gd ops o fr=.run->Region.wanted o (yielded ops a.tmps)=true)/\(gd ops o fr=.skip->Region.wanted o (yielded ops a.tmps)=false):=by
 unfold gd Region.wanted;cases hg:o.guard with
 |none=>exact⟨fun _=>rfl,fun h=>by cases h⟩
 |some p =>
  obtain⟨j,want⟩:=p;simp only;cases hd:(ops[j]?).bind (·.dst)with
  |none=>exact⟨fun h=>(by cases h),fun h=>(by cases h)⟩
  |some d =>
   simp only;split
   ·rename_i b hb;have hr:=h.fr d;rw[hb]at hr;have hv:a.tmps.getD d undef=.bool b:=hr.1;have hy:yielded ops a.tmps j=some b:=by
     unfold yielded;rw[hd];simp only[bYV];have:a.tmps[d]?=some (.bool b):=by
      rw[Array.getD_eq_getD_getElem?]at hv;cases hq:a.tmps[d]? with
      |none=>rw[hq]at hv;simp[undef]at hv
      |some v=>rw[hq]at hv;simp at hv;rw[hv]
     rw[this]
    rw[hy]
    by_cases aRG:b=want
    ·simp[aRG]
    ·simp[aRG]
   ·rename_i hb;have hr:=h.fr d;rw[hb]at hr;obtain⟨arr,hv,_⟩:=hr;have hy:yielded ops a.tmps j=none:=by
     unfold yielded;rw[hd];simp only[bYV];rw[Array.getD_eq_getD_getElem?]at hv;cases hq:a.tmps[d]? with
     |none=>rfl
     |some v=>rw[hq]at hv;simp at hv;rw[hv]
    rw[hy];exact⟨fun h=>(by cases h),fun _=>rfl⟩
   ·exact⟨fun h=>(by cases h),fun h=>(by cases h)⟩
theorem Al.wp(hT:qA P E.T)(hC:lZ P E){ρ:Nat->Nat}{done:Nat->Prop}{a:Act}{w:World}{st gH:St}{d:Dt}(hs:Al E ops base d st gH)(h:jT E X w0 ρ (aSO base done) st.fr st.hp a w)(hnd:¬done d.i)
  (K:Act->World->Prop) (Q:Exit->Act->World->Prop) (hK:∀ρ' a' w',jT E X w0 ρ' (aSO base fun i=>done i\/i=d.i) gH.fr gH.hp a' w'->K a' w'):wpOp P ops Q d.i K a w:=by
 obtain⟨h1,h2,h3,rfl⟩:=hs;unfold wpOp;rw[h1];simp only;have Qu:∀i,qU (aSO base done) (base+8*d.i) i->aSO base (fun i=>done i\/i=d.i) i:=by
  rintro i ((hi |⟨j,hj,aHT⟩) |hi)
  ·exact .inl hi
  ·exact .inr ⟨j,.inl hj,aHT⟩
  ·exact .inr ⟨d.i,.inr rfl,hi⟩
 rcases h3 with ⟨hg,he,ht⟩ |⟨hg,hx,hu,ht⟩
 ·rw[if_pos ((Qy h).1 hg)];refine .inl (Yv h h2 hT hC ?_ he K Q (fun ρ' v w' Zs=>hK ρ' _ w' (Zs.sZ Qu)));rintro j hj (jM |⟨i,hi,aXL⟩)
  ·omega
  ·have:i=d.i:=by omega
   subst this;exact hnd hi
 ·rw[if_neg (by rw[(Qy h).2 hg];simp)];rw[hx,hu]at hK;exact hK ρ _ w ((h.pure h2 (x:=.Ph []) (v:=undef) ⟨#[],rfl,rfl,fun i y u hy=>by cases hy⟩ (by simp[refs])).sZ (fun i hi=>Qu i (.inl hi)))
theorem zX.wpOps(hT:qA P E.T)(hC:lZ P E)(Q:Exit->Act->World->Prop):∀(ds:List Dt) (done:Nat->Prop) (ρ:Nat->Nat) (a:Act) (w:World) (st gH:St),zX E ops base ds st gH->jT E X w0 ρ (aSO base done) st.fr st.hp a w ->
  (∀d∈ds,¬done d.i)->(ds.map (·.i)).Nodup->(∀ρ' a' w',jT E X w0 ρ' (aSO base fun i=>done i\/i∈ds.map (·.i)) gH.fr gH.hp a' w'->Q .normal a' w') ->
  Go.wpOps P ops Q (ds.map (·.i)) a w
 | [],done,ρ,a,w,st,gH,h,hs,_,_,hQ=>by
  cases h;exact hQ ρ a w (hs.sZ (fun i hi=>hi.imp id fun⟨j,hj,aHT⟩=>⟨j,.inl hj,aHT⟩))
 |d :: ds,done,ρ,a,w,st,gH,h,hs,hnd,Cw,hQ=>by
  obtain⟨st1,hd,hr⟩:=h;rw[bXJ,wpOps_cons];rw[bXJ,List.nodup_cons]at Cw;refine hd.wp hT hC hs (hnd d (bXO ..)) _ _ (fun ρ' a' w' tW=>?_);refine zX.wpOps hT hC Q ds _ ρ' a' w' st1 gH hr tW (fun d' Bm Wx=>?_) Cw.2 (fun ρ2 a2 w2 aHO=>hQ ρ2 a2 w2 (aHO.sZ ?_))
  ·rcases Wx with Wx |Wx
   ·exact hnd d' (bXX _ Bm) Wx
   ·exact Cw.1 (List.mem_map.2 ⟨d',Bm,Wx⟩)
  ·rintro i (hi |⟨j,hj,aHT⟩)
   ·exact .inl hi
   ·refine .inr ⟨j,?_,aHT⟩;rcases hj with (hj |hj) |hj
    ·exact .inl hj
    ·exact .inr (by rw[bXJ,hj];exact bXO ..)
    ·exact .inr (by rw[bXJ];exact bXX _ hj)
theorem Ey.ind{p q:Dt}(h:Ey ops p q)(Dq:¬(q.o.after.any fun e=>Region.binds .any e&&e.on==p.i)=true)(bJE:¬befB ops p.i 3 q.o=true):bAC ops p q:=by
 unfold Ey indep at h;rw[bYP,bYP]at h;rcases h with (h |h) |h
 ·exact absurd h Dq
 ·simp only[bXN]at h;exact⟨h.1.1,h.1.2,h.2⟩
 ·exact absurd h bJE
def Uq(ops:Array Oper)(iO:Array Bool):Prop:=∀(j:Nat) (o:Oper),iO.getD j false=true->ops[j]?=some o->o.after.all (fun e=>!Region.binds .any e||iO.getD e.on false)=true
theorem Uq.bPH{iO:Array Bool}(hc:Uq ops iO){j:Nat}:∀(n:Nat) (o:Oper),o.after.all (fun e=>!Region.binds .any e||iO.getD e.on false)=true->befB ops j n o=true->iO.getD j false=true
 |0,_,_,h=>by cases h
 |n+1,o,ha,h=>by
  unfold befB at h;rw[Array.any_eq_true']at h;obtain⟨e,he,aXQ⟩:=h;rw[bXN]at aXQ;rw[Array.all_eq_true_iff_forall_mem]at ha;have h1:=ha e he;rw[aXQ.1]at h1;simp only[bZH,bZI]at h1;have h2:=aXQ.2;rw[bYP]at h2;rcases h2 with h2 |h2
  ·have:e.on=j:=by simpa using h2
   rw[<-this];exact h1
  ·cases ho:ops[e.on]? with
   |none=>rw[ho]at h2;cases h2
   |some o' =>
    rw[ho]at h2;exact hc.bPH n o' (hc e.on o' h1 ho) h2
theorem zX.wpAny(hT:qA P E.T)(hC:lZ P E)(Q:Exit->Act->World->Prop)(n:Nat)(hn:n=ops.size):∀(fuel:Nat) (ds:List Dt) (iO:Array Bool) (ρ:Nat->Nat) (a:Act) (w:World) (st gH:St),ds.length=fuel->iO.size=n ->
  (∀i,i∈ds.map (·.i)↔i<n/\iO.getD i true=false)->(ds.map (·.i)).Pairwise (· < ·)->bZG (Ey ops) ds->(∀d∈ds,zK d.i d.o=true)->Uq ops iO ->
  zX E ops base ds st gH->jT E X w0 ρ (aSO base fun i=>iO.getD i false=true) st.fr st.hp a w ->
  (∀ρ' a' w',jT E X w0 ρ' (aSO base fun i=>i<n) gH.fr gH.hp a' w'->Q .normal a' w') ->
  Go.wpAny P .any ops Q fuel iO a w:=by
 intro fuel
 induction fuel with
 |zero =>
  intro ds iO ρ a w st gH hlen bNZ Mz _ _ _ _ iC hs hQ;obtain rfl:ds=[]:=bZB hlen;cases iC;have En:∀i,i<n->iO.getD i true=true:=by
   intro i hi;cases hq:iO.getD i true with
   |true=>rfl
   |false=>exact absurd ((Mz i).2 ⟨hi,hq⟩) (by simp)
  refine⟨?_,hQ ρ a w (hs.sZ ?_)⟩
  ·unfold Region.ready;rw[List.filter_eq_nil_iff];intro i hi;rw[bZJ,<-hn]at hi;simp[En i hi]
  ·rintro i (hi |⟨j,hj,aHT⟩)
   ·exact .inl hi
   ·refine .inr ⟨j,?_,aHT⟩;rcases bXZ j n with h |h
    ·exact h
    ·rw[Array.getD_eq_getD_getElem?,Array.getElem?_eq_none (by omega)]at hj;cases hj
 |succ fuel ih =>
  intro ds iO ρ a w st gH hlen bNZ Mz aFY Yl aDQ aUP iC hs hQ;have xE:∀d∈ds,ops[d.i]?=some d.o:=by
   have:∀(l:List Dt) (s s':St),zX E ops base l s s'->∀d∈l,ops[d.i]?=some d.o:=by
    intro l
    induction l with
    |nil=>intro s s' _ d hd;cases hd
    |cons d l ih =>
     intro s s' h d' Bm;obtain⟨s1,h1,h2⟩:=h;rcases List.mem_cons.1 Bm with rfl |Bm
     ·exact h1.1
     ·exact ih s1 s' h2 d' Bm
   exact this ds st gH iC
  have aKV:∀i,i∈Region.ready .any ops iO↔i<n/\iO.getD i true=false/\∃o,ops[i]?=some o/\o.after.all (fun e=>!Region.binds .any e||iO.getD e.on false)=true:=by
   intro i;unfold Region.ready;rw[List.mem_filter,bZJ,<-hn];constructor
   ·rintro ⟨h1,h2⟩;rw[bXN]at h2;refine⟨h1,by simpa using h2.1,?_⟩;cases ho:ops[i]? with
    |none=>rw[ho]at h2;simp at h2
    |some o=>exact⟨o,rfl,by have:=h2.2;rw[ho]at this;simpa using this⟩
   ·rintro ⟨h1,h2,o,ho,h3⟩;refine⟨h1,?_⟩;rw[bXN];exact⟨by simp[h2],by rw[ho];simpa using h3⟩
  refine⟨fun bDG=>?_,fun i hi=>?_⟩
  ·
   exfalso
   match ds,hlen with
   |d :: ds,_ =>
    have hd:d.i<n/\iO.getD d.i true=false:=(Mz d.i).1 (bXO ..);have:d.i∈Region.ready .any ops iO:=by
     refine(aKV d.i).2 ⟨hd.1,hd.2,d.o,xE d (bXO ..),?_⟩;have he:=aDQ d (bXO ..);unfold zK at he;rw[Array.all_eq_true_iff_forall_mem]at he ⊢;intro e bUF;have:=he e bUF;rw[bYP]at this ⊢;rcases this with h |h
     ·exact .inl h
     ·right;have jM:e.on<d.i:=bZF h;cases hq:iO.getD e.on false with
      |true=>rfl
      |false =>
       have aDL:iO.getD e.on true=false:=by
        rw[Array.getD_eq_getD_getElem?]at hq ⊢;rw[Array.getElem?_eq_getElem (by omega)]at hq ⊢;exact hq
       have hm:=(Mz e.on).2 ⟨by omega,aDL⟩;rw[bXJ,bYO]at hm;rw[bXJ,List.pairwise_cons]at aFY;rcases hm with hm |hm
       ·omega
       ·have:=aFY.1 _ hm;omega
    rw[bDG]at this;cases this
  ·obtain⟨h1,h2,o,ho,h3⟩:=(aKV i).1 hi;have bTR:=(Mz i).2 ⟨h1,h2⟩;obtain⟨p,hp,bCY⟩:=List.mem_map.1 bTR;obtain⟨l1,l2,rfl⟩:=List.append_of_mem hp;have bNT:p.o=o:=by have:=xE p hp;rw[bCY,ho]at this;exact(Option.some.inj this).symm
   have bJR:∀q∈l1,bAC ops q p:=by
    intro q hq;have bSV:Ey ops q p:=(List.pairwise_append.1 Yl).2.2 q hq p (bXO ..);have bSZ:¬iO.getD q.i false=true:=by
     have bJA:=(Mz q.i).1 (List.mem_map.2 ⟨q,by simp[hq],rfl⟩);have h4:=bJA.2;rw[Array.getD_eq_getD_getElem?,Array.getElem?_eq_getElem (by omega)]at h4;rw[Array.getD_eq_getD_getElem?,Array.getElem?_eq_getElem (by omega)];rw[cAD]at h4 ⊢;rw[h4];simp
    refine bSV.ind (fun Jt=>?_) (fun hb=>bSZ (aUP.bPH 3 p.o (by rw[bNT];exact h3) hb));rw[Array.any_eq_true']at Jt;obtain⟨e,he,aXQ⟩:=Jt;rw[bXN]at aXQ;rw[Array.all_eq_true_iff_forall_mem]at h3;have:=h3 e (by rw[<-bNT];exact he);rw[aXQ.1]at this;simp only[bZH,bZI]at this;have bSR:e.on=q.i:=by simpa using aXQ.2
    have bJA:=(Mz q.i).1 (List.mem_map.2 ⟨q,by simp[hq],rfl⟩);rw[bSR]at this;rw[Array.getD_eq_getD_getElem?,Array.getElem?_eq_getElem (by omega)]at this;have h4:=bJA.2;rw[Array.getD_eq_getD_getElem?,Array.getElem?_eq_getElem (by omega)]at h4;rw[cAD]at this h4;rw[this]at h4;cases h4
   obtain⟨st1,Wm,Aj⟩:=zX.front bJR iC;rw[<-bCY];have Zu:iO.getD p.i false=false:=by
    have:=h2;rw[<-bCY]at this;rw[Array.getD_eq_getD_getElem?,Array.getElem?_eq_getElem (by omega)]at this ⊢;exact this
   refine Wm.wp hT hC hs (by simp[Zu]) _ _ (fun ρ' a' w' tW=>?_);have aXC:∀x∈(l1 ++ l2).map (·.i),x≠p.i:=by
    intro x hx;rw[bYD,bXJ,List.pairwise_append]at aFY;rw[bYD,bYK]at hx;rcases hx with hx |hx
    ·have:=aFY.2.2 x hx p.i (bXO ..);omega
    ·have:=(List.pairwise_cons.1 aFY.2.1).1 x hx;omega
   have bKI:Uq ops (iO.setIfInBounds p.i true):=by
    have Qu:∀k,iO.getD k false=true->(iO.setIfInBounds p.i true).getD k false=true:=by
     intro k hk;rw[Array.getD_eq_getD_getElem?,Array.getElem?_setIfInBounds]
     by_cases bOC:p.i=k
     ·rw[if_pos bOC,aT];rfl
     ·rw[if_neg bOC,<-Array.getD_eq_getD_getElem?];exact hk
    have aUD:∀(o':Oper),o'.after.all (fun e=>!Region.binds .any e||iO.getD e.on false)=true->o'.after.all (fun e=>!Region.binds .any e||(iO.setIfInBounds p.i true).getD e.on false)=true:=by
     intro o' aHP;rw[Array.all_eq_true_iff_forall_mem]at aHP ⊢;intro e he;have:=aHP e he;rw[bYP]at this ⊢;exact this.imp id (Qu _)
    intro j o' hj aHP
    by_cases bDO:p.i=j
    ·have:o'=o:=by rw[<-bDO,bCY,ho]at aHP;exact(Option.some.inj aHP).symm
     rw[this];exact aUD o h3
    ·rw[Array.getD_eq_getD_getElem?,Array.getElem?_setIfInBounds,if_neg bDO,<-Array.getD_eq_getD_getElem?]at hj;exact aUD o' (aUP j o' hj aHP)
   refine ih (l1 ++ l2) _ ρ' a' w' st1 gH (by simp at hlen ⊢;omega) (by simpa using bNZ) ?_ ?_ ?_ ?_ bKI Aj (tW.sZ ?_) hQ
   ·intro x;have Kt:=Mz x;rw[bYD,bXJ,bYK,bYO]at Kt;rw[bYD,bYK];rw[Array.getD_eq_getD_getElem?,Array.getElem?_setIfInBounds];constructor
    ·intro hx;have Dq:=aXC x (by rw[bYD,bYK];exact hx);have:=Kt.1 (hx.imp id .inr);refine⟨this.1,?_⟩;rw[if_neg (fun e=>Dq e.symm),<-Array.getD_eq_getD_getElem?];exact this.2
    ·rintro ⟨bRX,Dj⟩
     by_cases bAK:p.i=x
     ·rw[if_pos bAK,aT]at Dj;simp at Dj
     ·rw[if_neg bAK,<-Array.getD_eq_getD_getElem?]at Dj;rcases Kt.2 ⟨bRX,Dj⟩with h |h |h
      ·exact .inl h
      ·exact absurd h.symm bAK
      ·exact .inr h
   ·exact aFY.sublist (by simp)
   ·exact Yl.sublist (by simp)
   ·exact fun d hd=>aDQ d (by rcases List.mem_append.1 hd with h |h <;> simp[h])
   ·rintro x (hx |⟨j,hj,aHT⟩)
    ·exact .inl hx
    ·refine .inr ⟨j,?_,aHT⟩;show(iO.setIfInBounds p.i true).getD j false=true;rw[Array.getD_eq_getD_getElem?,Array.getElem?_setIfInBounds];rcases hj with hj |hj
     ·by_cases bDO:p.i=j
      ·rw[if_pos bDO,aT];rfl
      ·rw[if_neg bDO,<-Array.getD_eq_getD_getElem?];exact hj
     ·rw[if_pos hj.symm,aT];rfl
theorem Si(hT:qA P E.T)(hC:lZ P E)(hm:P.follows .mixedOrders=true){bQQ:Nat}{draw:Bool}{R:Type}{K:St->Option R}{r:R}{st:St}{ρ:Nat->Nat}{a:Act}{w:World}(hs:jT E X w0 ρ (fun i=>i<st.n) st.fr st.hp a w)
  (he:opsK E draw ops st.n ops.toList 0 [] st K=some r) (Q:Exit->Act->World->Prop) (hQ:∀gH ρ' a' w',K gH=some r->jT E X w0 ρ' (fun i=>i<st.n+8*ops.size) gH.fr gH.hp a' w'->Q .normal a' w') :
  (Code.region bQQ ops draw).wp P Q a w:=by
 obtain⟨ds,gH,hK,iC,bDT,bDZ⟩:=Qn E draw ops st.n K r ops.toList 0 [] st (fun k o hk=>by rw[bXL];simpa using hk) he;have hlen:ds.length=ops.size:=by have:=congrArg List.length bDT;simpa using this
 have Sx:ds.map (·.i)=bYR ops.size:=by rw[bDT,Array.length_toList,List.range_eq_range']
 have tE:∀i,aSO st.n (fun i=>i<ops.size) i->i<st.n+8*ops.size:=by
  rintro i (hi |⟨j,hj,aHT⟩) <;> omega
 have Mz:∀i,i∈ds.map (·.i)↔i<ops.size:=fun i=>by rw[Sx,bZJ]
 cases draw with
 |false =>
  refine wp_region ?_;rw[<-Sx];refine iC.wpOps hT hC Q ds (fun _=>False) ρ a w st gH (hs.sZ (fun i hi=>.inl hi)) (fun _ _ h=>h) (by rw[Sx];exact List.nodup_range) (fun ρ' a' w' tW=>hQ gH ρ' a' w' hK (tW.sZ (fun i hi=>tE i ?_)));rcases hi with hi |⟨j,hj,aHT⟩
  ·exact .inl hi
  ·exact .inr ⟨j,(Mz j).1 (hj.resolve_left id),aHT⟩
 |true =>
  obtain⟨_,Yl,aDQ⟩:=bDZ rfl;refine wp_region_any hm ?_;have aWX:jT E X w0 ρ (fun i=>i<st.n) st.fr st.hp a { w with drawn:=w.drawn+1 }:=hs.drew;refine zX.wpAny hT hC Q ops.size rfl ops.size ds _ ρ a _ st gH hlen (by simp) (fun i=>?_) ?_ Yl aDQ (fun j o hj _=>?_) iC (aWX.sZ (fun i hi=>.inl hi)) (fun ρ' a' w' tW=>hQ gH ρ' a' w' hK (tW.sZ tE))
  ·rw[Mz];constructor
   ·intro hi;exact⟨hi,by rw[Array.getD_eq_getD_getElem?,Array.getElem?_replicate,if_pos hi];rfl⟩
   ·exact fun h=>h.1
  ·rw[Sx];exact List.pairwise_lt_range
  ·exfalso;rw[Array.getD_eq_getD_getElem?,Array.getElem?_replicate]at hj;split at hj <;> cases hj
end
end AI
namespace AI
open Go Go.RowKit
section
variable {P:Program} {E:Env} {X:Nat->Prop} {w0:Old}
def Uo(n0:Nat)(st:St)(p s i:Nat)(kv:KV):Prop :=
 kv=(.any,none)\/(∃n,kv=(.v (.one (.buf p n)),st.hp i)/\st.fr s=.v (.one (.buf i n)))\/(kv=(.v (.one (.ptr p 0)),st.hp i)/\st.fr s=.v (.one (.ptr i 0)))\/(kv=(st.fr s,none)/\∀i∈refs (st.fr s),i<n0)
theorem Gl(n0:Nat)(st:St):∀(keep:List Nat) (p:Nat) (seen:List Nat),∃Ux:Nat->Nat,(canonGo n0 st keep p seen).length=keep.length /\
  (∀(k s:Nat),keep[k]?=some s->∃kv,(canonGo n0 st keep p seen)[k]?=some kv/\Uo n0 st (p+k) s (Ux k) kv/\(kv.2.isSome=true->Ux k ∉ seen)) /\
  (∀(k k':Nat) (kv Qt:KV),(canonGo n0 st keep p seen)[k]?=some kv->(canonGo n0 st keep p seen)[k']?=some Qt->kv.2.isSome=true->Qt.2.isSome=true->Ux k=Ux k'->k=k')
 | [],p,seen=>⟨fun _=>0,rfl,fun k s h=>by simp at h,fun k k' kv Qt h=>by simp[canonGo]at h⟩
 |s :: keep,p,seen=>by
  have core:∀(kv:KV) (i:Nat) (Lv:List Nat),(∀x∈seen,x∈Lv)->(kv.2.isSome=true->i∈Lv/\i ∉ seen)->Uo n0 st p s i kv->canonGo n0 st (s :: keep) p seen=kv :: canonGo n0 st keep (p+1) Lv ->
    ∃Ux:Nat->Nat,(canonGo n0 st (s :: keep) p seen).length=(s :: keep).length /\
    (∀(k s':Nat),(s :: keep)[k]?=some s'->∃kv,(canonGo n0 st (s :: keep) p seen)[k]?=some kv/\Uo n0 st (p+k) s' (Ux k) kv/\(kv.2.isSome=true->Ux k ∉ seen)) /\
    (∀(k k':Nat) (kv Qt:KV),(canonGo n0 st (s :: keep) p seen)[k]?=some kv->(canonGo n0 st (s :: keep) p seen)[k']?=some Qt->kv.2.isSome=true->Qt.2.isSome=true->Ux k=Ux k'->k=k'):=by
   intro kv i Lv bSL hi bJY heq;obtain⟨Ux,h1,h2,h3⟩:=Gl n0 st keep (p+1) Lv;rw[heq];have aUF:∀(k:Nat) (Qt:KV),(canonGo n0 st keep (p+1) Lv)[k]?=some Qt->Qt.2.isSome=true->Ux k ∉ Lv:=by
    intro k Qt hk hs;obtain⟨s',tW⟩:=cK (l:=keep) (i:=k) (by have:=bJ hk;omega);obtain⟨bHV,e1,_,e3⟩:=h2 k s' tW;rw[hk]at e1;cases e1;exact e3 hs
   refine⟨fun k=>if k=0 then i else Ux (k-1),by simp[h1],?_,?_⟩
   ·intro k s' hk
    match k with
    |0=>simp at hk;subst hk;exact⟨kv,rfl,by simpa using bJY,fun h=>by simpa using (hi h).2⟩
    |k+1 =>
     simp at hk;obtain⟨Qt,e1,e2,e3⟩:=h2 k s' hk;refine⟨Qt,by simpa using e1,?_,fun h=>?_⟩
     ·simp only[cAE,if_false,cAF];rw[show p+(k+1)=p+1+k by omega];exact e2
     ·simp only[cAE,if_false,cAF];exact fun hm=>e3 h (bSL _ hm)
   ·intro k k' bMY bHV hk aHS hs tW he
    match k,k' with
    |0,0=>rfl
    |0,k'+1 =>
     simp at hk aHS;subst hk;simp at he;exact absurd (hi hs).1 (by rw[he];exact aUF k' bHV aHS tW)
    |k+1,0 =>
     simp at hk aHS;subst aHS;simp at he;exact absurd (hi tW).1 (by rw[<-he];exact aUF k bMY hk hs)
    |k+1,k'+1 =>
     simp at hk aHS he;have:=h3 k k' bMY bHV hk aHS hs tW he;omega
  have Jt:canonGo n0 st (s :: keep) p seen=(.any,none) :: canonGo n0 st keep (p+1) seen->_:=core (.any,none) 0 seen (fun _ h=>h) (fun h=>by cases h) (.inl rfl);cases hf:st.fr s with
  |any=>exact Jt (by simp only[canonGo,hf])
  |Ph xs=>exact Jt (by simp only[canonGo,hf])
  |v x =>
   cases x with
   |agg cs=>exact core (.v (.agg cs),none) 0 seen (fun _ h=>h) (fun h=>by cases h) (.inr (.inr (.inr ⟨by rw[hf],by rw[hf];intro i hi;cases hi⟩))) (by simp only[canonGo,hf])
   |one l =>
    cases l with
    |s x=>exact core (.v (.one (.s x)),none) 0 seen (fun _ h=>h) (fun h=>by cases h) (.inr (.inr (.inr ⟨by rw[hf],by rw[hf];intro i hi;cases hi⟩))) (by simp only[canonGo,hf])
    |rows sz n f=>exact core (.v (.one (.rows sz n f)),none) 0 seen (fun _ h=>h) (fun h=>by cases h) (.inr (.inr (.inr ⟨by rw[hf],by rw[hf];intro i hi;cases hi⟩))) (by simp only[canonGo,hf])
    |Px cs=>exact core (.v (.one (.Px cs)),none) 0 seen (fun _ h=>h) (fun h=>by cases h) (.inr (.inr (.inr ⟨by rw[hf],by rw[hf];intro i hi;cases hi⟩))) (by simp only[canonGo,hf])
    |Tx k ns=>exact core (.v (.one (.Tx k ns)),none) 0 seen (fun _ h=>h) (fun h=>by cases h) (.inr (.inr (.inr ⟨by rw[hf],by rw[hf];intro i hi;cases hi⟩))) (by simp only[canonGo,hf])
    |Sv i j=>exact Jt (by simp only[canonGo,hf])
    |view i off n =>
     cases aHN:bXP i n0 with
     |false=>exact Jt (by simp only[canonGo,hf,aHN,cond_false])
     |true =>
      have jM:i<n0:=by rw[bYT]at aHN;exact aHN
      exact core (.v (.one (.view i off n)),none) 0 seen (fun _ h=>h) (fun h=>by cases h) (.inr (.inr (.inr ⟨by rw[hf],by rw[hf];intro j hj;simp[refs,refsV,refsL]at hj;omega⟩))) (by simp only[canonGo,hf,aHN,cond_true])
    |buf i n =>
     cases aHN:seen.elem i with
     |true=>exact Jt (by simp only[canonGo,hf,aHN,cond_true])
     |false =>
      have Kv:i ∉ seen:=by simpa using aHN
      exact core (.v (.one (.buf p n)),st.hp i) i (i :: seen) (fun _ h=>bXX _ h) (fun _=>⟨bXO ..,Kv⟩) (.inr (.inl ⟨n,rfl,hf⟩)) (by simp only[canonGo,hf,aHN,cond_false])
    |ptr i off =>
     match off with
     |0 =>
      cases aHN:seen.elem i with
      |true=>exact Jt (by simp only[canonGo,hf,aHN,cond_true])
      |false =>
       have Kv:i ∉ seen:=by simpa using aHN
       exact core (.v (.one (.ptr p 0)),st.hp i) i (i :: seen) (fun _ h=>bXX _ h) (fun _=>⟨bXO ..,Kv⟩) (.inr (.inr (.inl ⟨rfl,hf⟩))) (by simp only[canonGo,hf,aHN,cond_false])
     |off+1=>exact Jt (by simp only[canonGo,hf])
theorem Ix(t:Nat):∀(keep:List Nat) (l:List KV),slotGo t keep l=.any\/∃(k:Nat) (kv:KV),keep[k]?=some t/\l[k]?=some kv/\slotGo t keep l=kv.1
 | [],_=>.inl (by simp[slotGo])
 |_ :: _,[]=>.inl (by simp[slotGo])
 |s :: keep,kv :: l=>by
  simp only[slotGo];cases hb:bXI t s with
  |true=>obtain rfl:=bXT hb;exact .inr ⟨0,kv,rfl,rfl,rfl⟩
  |false =>
   rcases Ix t keep l with h |⟨k,Qt,h1,h2,h3⟩
   ·exact .inl h
   ·exact .inr ⟨k+1,Qt,by simpa using h1,by simpa using h2,h3⟩
theorem Nx:∀(l:List KV) (i:Nat) (b:mI),blkGo i l=some b->∃kv,l[i]?=some kv/\kv.2=some b
 | [],i,b,h=>by simp[blkGo]at h
 |kv :: l,0,b,h=>⟨kv,rfl,h⟩
 |kv :: l,i+1,b,h=>by
  obtain⟨Qt,h1,h2⟩:=Nx l i b h;exact⟨Qt,by simpa using h1,h2⟩
theorem Rf:∀(l:List KV) (i:Nat) (kv:KV),l[i]?=some kv->blkGo i l=kv.2
 | [],i,kv,h=>by simp at h
 |bRS :: l,0,kv,h=>by simp at h;subst h;rfl
 |bRS :: l,i+1,kv,h=>Rf l i kv (by simpa using h)
theorem Jg(st:St):∀(n i:Nat),(canonIO st n i).length=n
 |0,_=>rfl
 |n+1,i=>by simp[canonIO,Jg st n]
theorem Jh(st:St):∀(n i k:Nat) (r:List KV),k<n->blkGo k (canonIO st n i ++ r)=st.hp (i+k)
 |0,_,_,_,h=>by omega
 |n+1,i,0,r,_=>rfl
 |n+1,i,k+1,r,h=>by
  simp only[canonIO,bYS,blkGo];rw[Jh st n (i+1) k r (by omega)];congr 1;omega
theorem Gk(st:St):∀(n i k:Nat) (r:List KV),blkGo (n+k) (canonIO st n i ++ r)=blkGo k r
 |0,_,k,r=>by simp[canonIO]
 |n+1,i,k,r=>by
  rw[show n+1+k=(n+k)+1 by omega];simp only[canonIO,bYS,blkGo];exact Gk st n (i+1) k r
theorem Rh:∀{n i:Nat},i<n->i∈below n
 |n+1,i,h=>by
  unfold below
  by_cases hi:i=n
  ·subst hi;exact bXO ..
  ·exact bXX _ (Rh (by omega))
theorem Ie{ρ:Nat->Nat}{al:Nat->Prop}{st:St}{a:Act}{w:World}(h:jT E X w0 ρ al st.fr st.hp a w)(keep:List Nat) :
  ∃ρ',jT E X w0 ρ' (fun i=>i<(mk E.n0 keep (canon E.n0 keep st)).n) (mk E.n0 keep (canon E.n0 keep st)).fr (mk E.n0 keep (canon E.n0 keep st)).hp a w:=by
 obtain⟨n0,aHQ⟩:∃n0,n0=E.n0:=⟨_,rfl⟩;rw[<-aHQ];obtain⟨Ux,h1,h2,h3⟩:=Gl n0 st keep n0 (below n0);obtain⟨C,hC⟩:∃C,C=canonGo n0 st keep n0 (below n0):=⟨_,rfl⟩;have aRC:canon n0 keep st=canonIO st n0 0 ++ C:=by rw[hC];rfl
 rw[<-hC]at h1 h2 h3;rw[aRC];have aLD:(canonIO st n0 0 ++ C).drop n0=C:=by
  have:=bZZ (l₁:=canonIO st n0 0) (l₂:=C);rwa [Jg]at this
 obtain⟨yR,Td⟩:∃yR,yR=(mk n0 keep (canonIO st n0 0 ++ C)).hp:=⟨_,rfl⟩;rw[<-Td];have Uz:∀q,q<n0->yR q=st.hp q:=fun q hq=>by
  rw[Td];have:=Jh st n0 0 q C hq;rw[bXL]at this;exact this
 have Wv:∀k,yR (n0+k)=blkGo k C:=fun k=>by rw[Td];exact Gk st n0 0 k C
 have bAT:∀t,(mk n0 keep (canonIO st n0 0 ++ C)).fr t=slotGo t keep C:=fun t=>by
  show slotGo t keep ((canonIO st n0 0 ++ C).drop n0)=_;rw[aLD]
 have hn:(mk n0 keep (canonIO st n0 0 ++ C)).n=n0+keep.length:=rfl;obtain⟨aKP,bDU⟩:∃aKP:Nat->Nat,aKP=fun q=>if q<n0 then q else Ux (q-n0):=⟨_,rfl⟩
 have aUL:∀q,q<n0->aKP q=q:=fun q hq=>by rw[bDU];simp only;rw[if_pos hq]
 have aRD:∀k,aKP (n0+k)=Ux k:=fun k=>by rw[bDU];simp only;rw[bG];congr 1;omega
 have aUD:∀(k:Nat) (b:mI),blkGo k C=some b->k<keep.length/\st.hp (Ux k)=some b/\n0<=Ux k/\∃kv,C[k]?=some kv/\kv.2=some b:=by
  intro q b hq;obtain⟨kv,hk,hb⟩:=Nx _ q b hq;have jM:q<keep.length:=by have:=bJ hk;omega
  obtain⟨s,hs⟩:=cK jM;obtain⟨Qt,e1,e2,e3⟩:=h2 q s hs;rw[hk]at e1;cases e1;refine⟨jM,?_,?_,kv,hk,hb⟩
  ·rcases e2 with rfl |⟨n,rfl,_⟩ |⟨rfl,_⟩ |⟨rfl,_⟩
   ·cases hb
   ·exact hb
   ·exact hb
   ·cases hb
  ·have:=e3 (by rw[hb];rfl);rcases bXZ (Ux q) n0 with h4 |h4
   ·exact absurd (Rh h4) this
   ·exact h4
 have Ym:∀(q:Nat) (b:mI),yR q=some b->st.hp (aKP q)=some b/\q<n0+keep.length:=by
  intro q b hq;rcases bXZ q n0 with h4 |h4
  ·rw[Uz q h4]at hq;exact⟨by rw[aUL q h4];exact hq,by omega⟩
  ·obtain⟨k,rfl⟩:=bYQ h4;rw[Wv]at hq;obtain⟨h5,h6,_⟩:=aUD k b hq;exact⟨by rw[aRD];exact h6,by omega⟩
 have tY:∀b,XO X (fun q=>ρ (aKP q)) yR b->XO X ρ st.hp b:=by
  rintro b (hb |⟨q,bl,h4,h5⟩)
  ·exact .inl hb
  ·exact .inr ⟨aKP q,bl,(Ym q bl h4).1,h5⟩
 have hl:jB (XO X ρ st.hp) w (XO X (fun q=>ρ (aKP q)) yR) w:=⟨bXK _,fun b _ hx=>⟨rfl,fun hb=>hx (tY b hb)⟩⟩;have key:∀t,zY (fun q=>ρ (aKP q)) yR (XO X (fun q=>ρ (aKP q)) yR) w (slotGo t keep C) (a.tmps.getD t undef)/\∀i∈refs (slotGo t keep C),i<n0+keep.length:=by
  intro t;rcases Ix t keep C with he |⟨k,kv,hk,bOB,he⟩
  ·rw[he];exact⟨trivial,by simp[refs]⟩
  ·rw[he];obtain⟨Qt,e1,e2,_⟩:=h2 k t hk;rw[bOB]at e1;cases e1;have jM:=bJ hk;have hr:=h.fr t;have bGM:=Rf _ k kv bOB;rcases e2 with rfl |⟨n,rfl,hf⟩ |⟨rfl,hf⟩ |⟨rfl,hf⟩
   ·exact⟨trivial,by simp[refs]⟩
   ·rw[hf]at hr;obtain⟨cap,hv,Fi,hc⟩:=hr;refine⟨⟨cap,by simp only[aRD];exact hv,Fi,fun blk k1 ns hb aGA=>?_⟩,?_⟩
    ·rw[Wv,bGM]at hb;have:=hc blk k1 ns hb aGA;simp only[aRD];exact this
    ·intro i hi;simp[refs,refsV,refsL]at hi;omega
   ·rw[hf]at hr;refine⟨?_,?_⟩
    ·show _=_;simp only[aRD];exact hr
    ·intro i hi;simp[refs,refsV,refsL]at hi;omega
   ·refine⟨zY.later (al:=fun i=>i<n0) hl (fun i hi=>⟨by simp only[aUL i hi],fun b' xJ=>⟨b',by rw[<-Uz i hi];exact xJ,fun k ns e=>⟨k,ns,e,rfl⟩,rfl⟩⟩) hf hr,fun i hi=>?_⟩;have:=hf i hi;omega
 refine⟨fun q=>ρ (aKP q),{ fr:=fun t=>by rw[bAT];exact(key t).1,sz:=h.sz,nod:=h.nod,blk:=?_,inj:=?_,alh:=?_,alr:=fun t i hi=>by rw[bAT]at hi;exact(key t).2 i hi,below:=h.below,x0:=h.x0,glob:=h.glob,mg:=h.mg,al0:=fun i hi=>by show i<n0+keep.length;omega,rB:=fun i hi=>by simp only[aUL i (by omega)];exact h.rB i hi }⟩
 ·intro q b hq;have hb:=(Ym q b hq).1;refine⟨?_,(h.blk _ b hb).2.later hl rfl⟩;rcases bXZ q n0 with h4 |h4
  ·have:=(h.blk _ b hb).1;simp only[aUL q h4]at this ⊢;exact this
  ·obtain⟨k,rfl⟩:=bYQ h4;rw[Wv]at hq;obtain⟨_,_,h6,_⟩:=aUD k b hq;exact .inl ((h.blk _ b hb).1.new (by rw[aRD];omega))
 ·intro q q' b b' hq aDL he;have hb:=(Ym q b hq).1;have xJ:=(Ym q' b' aDL).1;have aRE:=h.inj _ _ b b' hb xJ he;rcases bXZ q n0 with h4 |h4
  ·rcases bXZ q' n0 with h5 |h5
   ·rw[aUL q h4,aUL q' h5]at aRE;exact aRE
   ·obtain⟨k,rfl⟩:=bYQ h5;rw[Wv]at aDL;obtain⟨_,_,h6,_⟩:=aUD k b' aDL;rw[aUL q h4,aRD]at aRE;omega
  ·obtain⟨k,rfl⟩:=bYQ h4;rw[Wv]at hq;obtain⟨_,_,h6,kv,hk,bTK⟩:=aUD k b hq;rcases bXZ q' n0 with h5 |h5
   ·rw[aUL q' h5,aRD]at aRE;omega
   ·obtain⟨k',rfl⟩:=bYQ h5;rw[Wv]at aDL;obtain⟨_,_,_,Qt,aHS,bJO⟩:=aUD k' b' aDL;rw[aRD,aRD]at aRE;have:=h3 k k' kv Qt hk aHS (by rw[bTK];rfl) (by rw[bJO];rfl) aRE;omega
 ·intro q b hq;exact(Ym q b hq).2
def exitOf:Ex->Exit
 | .normal=>.normal
 | .exit id=>.exit id
 | .ret=>.ret
def KQ{R:Type}(E:Env)(X:Nat->Prop)(w0:Old)(K:Ex->St->Option R)(Q:Exit->Act->World->Prop)(r:R):Prop :=
 ∀(ex:Ex) (st:St) (ρ:Nat->Nat) (a:Act) (w:World),K ex st=some r->jT E X w0 ρ (fun i=>i<st.n) st.fr st.hp a w->Q (exitOf ex) a w
theorem Bh{R:Type}{c:Code}{keep:List Nat}{r:R}{Q:Exit->Act->World->Prop}{K:Ex->St->Option R}(bKU:KQ E X w0 K Q r)
  (ih:∀(st:St) (K:Ex->St->Option R) (Q:Exit->Act->World->Prop) (ρ:Nat->Nat) (a:Act) (w:World),jT E X w0 ρ (fun i=>i<st.n) st.fr st.hp a w->evalCode E c st K=some r->KQ E X w0 K Q r->c.wp P Q a w) :
  ∀(n:Nat) (l:List KV) (ρ:Nat->Nat) (a:Act) (w:World),iter (fun rec l=>evalCode E c (mk E.n0 keep l) fun ex gH=>match ex with
    | .normal=>rec (canon E.n0 keep gH)
    | .exit i=>K (.exit i) gH
    | .ret=>K .ret gH) n l=some r->jT E X w0 ρ (fun i=>i<(mk E.n0 keep l).n) (mk E.n0 keep l).fr (mk E.n0 keep l).hp a w->Code.rounds P c Q n a w
 |0,l,ρ,a,w,h,_=>by cases h
 |n+1,l,ρ,a,w,h,hs=>by
  rw[rounds_succ];refine ih (mk E.n0 keep l) _ _ ρ a w hs h ?_;intro ex gH ρ' a' w' he tW;cases ex with
  |normal =>
   obtain⟨ρ2,aHO⟩:=Ie tW keep;exact Bh bKU ih n _ ρ2 a' w' he aHO
  |exit i=>exact bKU (.exit i) gH ρ' a' w' he tW
  |ret=>exact bKU .ret gH ρ' a' w' he tW
theorem aLR{α R:Type}{G:(α->Option R)->α->Option R}{x:α}{r:R}(h:fix G x=some r):∃n,iter G n x=some r:=by
 unfold fix at h;split at h
 ·rename_i hex;cases h;exact Classical.choose_spec hex
 ·cases h
theorem aAL(hT:qA P E.T)(hC:lZ P E)(hm:P.follows .mixedOrders=true){R:Type}(r:R):∀(c:Code) (st:St) (K:Ex->St->Option R) (Q:Exit->Act->World->Prop) (ρ:Nat->Nat) (a:Act) (w:World),
  jT E X w0 ρ (fun i=>i<st.n) st.fr st.hp a w->evalCode E c st K=some r->KQ E X w0 K Q r->c.wp P Q a w:=by
 intro c
 induction c with
 |skip=>intro st K Q ρ a w hs he hK;exact wp_skip (hK .normal st ρ a w he hs)
 |label l=>intro st K Q ρ a w hs he hK;exact wp_label (hK .normal st ρ a w he hs)
 |exit id=>intro st K Q ρ a w hs he hK;exact wp_exit (hK (.exit id) st ρ a w he hs)
 |ret=>intro st K Q ρ a w hs he hK;exact wp_ret (hK .ret st ρ a w he hs)
 |region id ops draw =>
  intro st K Q ρ a w hs he hK;unfold evalCode at he;exact Si hT hC hm hs he Q (fun gH ρ' a' w' hk tW=>hK .normal _ ρ' a' w' hk tW)
 |seq x y bFS bCN =>
  intro st K Q ρ a w hs he hK;unfold evalCode at he;refine wp_seq (bFS st _ _ ρ a w hs he ?_);intro ex gH ρ' a' w' hk tW;cases ex with
  |normal =>
   simp only at hk;split at hk
   ·rename_i keep _;obtain⟨ρ2,aHO⟩:=Ie tW keep;unfold Cz at hk;exact bCN _ K Q ρ2 a' w' aHO hk hK
   ·exact bCN gH K Q ρ' a' w' tW hk hK
  |exit i=>exact hK (.exit i) gH ρ' a' w' hk tW
  |ret=>exact hK .ret gH ρ' a' w' hk tW
 |cond c x y bFS bCN =>
  intro st K Q ρ a w hs he hK;unfold evalCode at he;split at he
  ·rename_i s;split at he
   ·rename_i t ht;have hr:=hs.fr s;rw[ht]at hr;have hv:a.eval (.tmp s)=.bool t:=hr.1;have e0:Ck st.fr s (Dh (.bool t))=st.fr:=aBP st.fr s t ht;refine wp_cond hv ?_;cases t with
    |true=>simp only[cond_true,e0]at he;exact bFS _ K Q ρ a w hs he hK
    |false=>simp only[cond_false,e0]at he;exact bCN _ K Q ρ a w hs he hK
   ·cases he
  ·rename_i t;refine wp_cond (t:=t) rfl ?_;cases t with
   |true=>simp only[cond_true]at he;exact bFS _ K Q ρ a w hs he hK
   |false=>simp only[cond_false]at he;exact bCN _ K Q ρ a w hs he hK
  ·cases he
 |block id c ih =>
  intro st K Q ρ a w hs he hK;unfold evalCode at he;refine wp_block (ih st _ _ ρ a w hs he ?_);intro ex gH ρ' a' w' hk tW;cases ex with
  |normal=>exact hK .normal gH ρ' a' w' hk tW
  |ret=>exact hK .ret gH ρ' a' w' hk tW
  |exit i =>
   simp only[exitOf,Exit.inBlock];simp only at hk;cases hb:bXI i id with
   |true =>
    rw[hb]at hk;rw[if_pos (bXT hb)];exact hK .normal gH ρ' a' w' hk tW
   |false =>
    rw[hb]at hk;rw[if_neg (bZL hb)];exact hK (.exit i) gH ρ' a' w' hk tW
 |loop c ih =>
  intro st K Q ρ a w hs he hK;unfold evalCode at he;obtain⟨ρ2,aHO⟩:=Ie hs (E.keep (keyOf c));split at he
  ·rename_i n _;exact wp_loop_rounds n (Bh hK ih n _ ρ2 a w he aHO)
  ·obtain⟨n,hn⟩:=aLR he;exact wp_loop_rounds n (Bh hK ih n _ ρ2 a w hn aHO)
 |rangeFunc f ps x y _ _=>intro st K Q ρ a w hs he hK;unfold evalCode at he;cases he
 |scope c ih =>
  intro st K Q ρ a w hs he hK;unfold evalCode at he;refine wp_scope_straight (ih st K _ ρ a w hs he ?_);intro ex gH ρ' a' w' hk tW;have:=hK ex gH ρ' a' w' hk tW;cases ex <;> exact this
 |goto l=>intro st K Q ρ a w hs he hK;unfold evalCode at he;cases he
 |refuse bMM=>intro st K Q ρ a w hs he hK;unfold evalCode at he;cases he
end
end AI
namespace AI
open Go Go.RowKit
theorem vQ{P:Program}{f:FuncId}{fn:Func}{c:Code}(hf:P.funcs[f]?=some fn)(hb:fn.body=some c)(hn:(fn.name== "runtime.NumGoroutine")=false):wY P f:=by
 intro vs w;have aKX:¬fn.name= "runtime.NumGoroutine":=by simpa using hn
 simp[callFunc,hf,hb,aKX]
theorem Qs{α β:Type}{P:Program}{w:World}{f:α->Sem β}{g:α->β}:∀{l:List α},(∀x∈l,(f x).run P w=.ok (g x) w)->(l.mapM f).run P w=.ok (l.map g) w
 | [],_=>rfl
 |x :: l,h=>by
  rw[bYE,Sem.run_bind,h x (bXO ..),Result.andThen_ok,Sem.run_bind,Qs fun y hy=>h y (bXX _ hy)];rfl
theorem aKI{α β:Type}{P:Program}{w:World}{f:α->Sem β}{g:α->β}{arr:Array α}(h:∀x∈arr.toList,(f x).run P w=.ok (g x) w) :
  (arr.mapM f).run P w=.ok (arr.toList.map g).toArray w:=by
 rw[Array.mapM_eq_mapM_toList,map_eq_pure_bind,Sem.run_bind,Qs h];rfl
section
variable {P:Program} {E:Env} {X:Nat->Prop} {w0:Old} {ρ:Nat->Nat} {al:Nat->Prop} {st:St} {a:Act} {w:World}
def ownOf(st:St):ResultVar->Option Nat
 | .tmp t=>match st.fr t with
  | .v (.one (.buf i _))=>some i
  | .v (.one (.view i _ _))=>some i
  |_=>none
 | .cell _ _=>none
def Hn(a:Act):ResultVar->Sem Value
 | .tmp t=>pure (a.tmps.getD t undef)
 | .cell d t=>do loadVar t (<-asAddr (a.tmps.getD d undef))
def Good(E:Env)(X:Nat->Prop)(base:Nat)(st:St)(ρ:Nat->Nat)(w:World)(r:ResultVar)(v:Value):D->Prop
 | .own e k ns=>∃i,ownOf st r=some i/\(∃b,st.hp i=some b)/\Rm base w (ρ i) e k ns v
 | .back i off n=>i∈E.io/\∀blk k ns,st.hp i=some blk->blk.cont=.ints k ns->aAX w (ρ i) ns.length off n v
 |d=>oW (XO X ρ st.hp) w d v
theorem Zg(hT:qA P E.T)(h:jT E X w0 ρ al st.fr st.hp a w){r:ResultVar}{d:D}(hd:resD E st r=some d) :
  ∃v,(Hn a r).run P w=.ok v w/\Good E X w0.w.heap.size st ρ w r v d:=by
 cases r with
 |tmp t =>
  have hr:=h.fr t;refine⟨_,rfl,?_⟩;unfold resD at hd;simp only at hd;split at hd
  ·rename_i cs hf;cases hd;rw[hf]at hr;exact hr
  ·rename_i x hf;cases hd;rw[hf]at hr;exact hr
  ·rename_i i n hf;cases Kv:bXP i E.n0 with
   |true=>rw[Kv]at hd;cases hd
   |false =>
   rw[Kv]at hd;simp only[cond_false]at hd;have Kv:E.n0<=i:=by
    have:¬i<E.n0:=fun h=>by
     have h2:bXP i E.n0=true:=by rw[bYT];exact h
     rw[h2]at Kv;cases Kv
    omega
   split at hd
   ·rename_i e k ns hb;cases hd;rw[hf]at hr;obtain⟨cap,hv,hle,hc⟩:=hr;obtain⟨e1,e2,e3⟩:=hc _ k ns hb rfl;obtain⟨hw,arr,hg,Nd⟩:=h.blk i _ hb;have hs:cap<=arr.size:=by unfold nG at e3;rw[hg]at e3;exact e3
    refine⟨i,by simp[ownOf,hf],⟨_,hb⟩,arr,cap,by rw[<-e1];exact hv,hw.new Kv,hg,by omega,hs,e2,Nd.2⟩
   ·cases hd
  ·rename_i i off n hf;rw[hf]at hr;obtain⟨o',cap,hv,Fi,hA,hA0,hc⟩:=hr;cases Nb:E.io.elem i with
   |true =>
    rw[Nb]at hd;simp only[cond_true]at hd;cases hd;exact⟨by simpa using Nb,fun blk k ns hb hk=>⟨o',cap,hv,Fi,hA,hA0,hc blk k ns hb hk⟩⟩
   |false =>
   rw[Nb]at hd;simp only[cond_false]at hd;cases Kv:bXP i E.n0 with
   |true=>rw[Kv]at hd;cases hd
   |false =>
   rw[Kv]at hd;simp only[cond_false]at hd;have Kv:E.n0<=i:=by
    have:¬i<E.n0:=fun h=>by
     have h2:bXP i E.n0=true:=by rw[bYT];exact h
     rw[h2]at Kv;cases Kv
    omega
   split at hd
   ·rename_i e k ns hb;cases hd;obtain⟨e1,e2,e3⟩:=hc _ k ns hb rfl;obtain⟨hw,arr,hg,Nd⟩:=h.blk i _ hb;have hs:cap<=arr.size:=by unfold nG at e3;rw[hg]at e3;exact e3
    have hl:(ns.take n).length=n:=by rw[bZC];omega
    refine⟨i,by simp[ownOf,hf],⟨_,hb⟩,arr,cap,by rw[hl,<-hA0 rfl];exact hv,hw.new Kv,hg,by rw[hl];exact Fi,hs,e2,fun j m hj=>Nd.2 j m ?_⟩;have Zw:j<n:=by have:=bJ hj;omega
    rw[bXU Zw]at hj;exact hj
   ·cases hd
  ·cases hd
 |cell t ty =>
  have hr:=h.fr t;unfold resD at hd;simp only at hd;split at hd
  ·rename_i i off ti hf yQ;rw[hf]at hr;have hr:a.tmps.getD t undef=.pointer (some ⟨ρ i,off,none⟩):=hr;split at hd
   ·rename_i e cs hb;obtain⟨_,arr,hg,Nd⟩:=h.blk i _ hb;have hl:∀x,partOf ti cs off=some x->∃v,(Hn a (.cell t ty)).run P w=.ok v w/\Gs ρ st.hp (XO X ρ st.hp) w x v/\refsV x=[]:=by
     intro x hx;obtain⟨v,h1,h2,h3⟩:=Su (P:=P) (hT ty ti yQ) (b:=ρ i) (off:=0) (cs:=cs) (fun j s hs=>by
      obtain⟨u,hu,hr⟩:=Nd.2 j s hs;exact⟨u,by rw[cell_of_row w (ρ i) _ arr e (0,0) hg];simpa using hu,hr⟩) hx (ρ:=ρ) (hp':=st.hp)
     rw[bXL]at h1;refine⟨v,?_,h2,h3⟩;unfold Hn;rw[Sem.run_bind,hr];simpa [asAddr] using h1
    split at hd
    ·rename_i aUW hx;cases hd;obtain⟨v,h1,h2,_⟩:=hl _ hx;exact⟨v,h1,h2⟩
    ·rename_i x hx;cases hd;obtain⟨v,h1,h2,_⟩:=hl _ hx;exact⟨v,h1,h2⟩
    ·cases hd
   ·cases hd
  ·cases hd
theorem Bg{α β:Type}{f:α->Option β}:∀{l:List α} {ys:List β},l.mapM f=some ys->ys.length=l.length/\∀(i:Nat) (x:α),l[i]?=some x->∃y,ys[i]?=some y/\f x=some y
 | [],ys,h=>by simp at h;subst h;simp
 |x :: l,ys,h=>by
  rw[bYE]at h;cases hx:f x with
  |none=>rw[hx]at h;cases h
  |some y =>
   cases hl:l.mapM f with
   |none=>rw[hx,hl]at h;cases h
   |some ys' =>
    rw[hx,hl]at h;cases h;obtain⟨h1,h2⟩:=Bg hl;refine⟨by simp[h1],fun i x' hi=>?_⟩
    match i with
    |0=>simp at hi;subst hi;exact⟨y,rfl,hx⟩
    |i+1=>simp at hi;obtain⟨y',e1,e2⟩:=h2 i x' hi;exact⟨y',by simpa using e1,e2⟩
theorem Mf:∀{l:List ResultVar} {j:Nat} {r:ResultVar} {i:Nat},l[j]?=some r->ownOf st r=some i->i∈ownIds st l
 | [],j,r,i,h,_=>by simp at h
 |r0 :: l,0,r,i,h,ho=>by
  simp at h;subst h;cases r0 with
  |cell=>cases ho
  |tmp t =>
   simp only[ownOf]at ho;split at ho
   ·rename_i i' n hf;cases ho;simp[ownIds,hf]
   ·rename_i i' o' n hf;cases ho;simp[ownIds,hf]
   ·cases ho
 |r0 :: l,j+1,r,i,h,ho=>by
  have:=Mf (l:=l) (j:=j) (by simpa using h) ho;cases r0 with
  |cell=>exact this
  |tmp t=>simp only[ownIds];exact bZE _ this
theorem Cs:∀{xs ys:List Nat},nodup (xs ++ ys)=true->nodup ys=true/\∀x∈xs,x ∉ ys
 | [],ys,h=>⟨h,by simp⟩
 |x :: xs,ys,h=>by
  simp only[bYS,nodup,bXN]at h;obtain⟨h1,h2⟩:=Cs h.2;refine⟨h1,fun y hy=>?_⟩;rcases List.mem_cons.1 hy with rfl |hy
  ·intro hm;have:(xs ++ ys).elem y=true:=by simp[hm]
   rw[this]at h;simp at h
  ·exact h2 y hy
theorem Mg:∀{l:List ResultVar} {j j':Nat} {r r':ResultVar} {i:Nat},nodup (ownIds st l)=true->l[j]?=some r->l[j']?=some r'->ownOf st r=some i->ownOf st r'=some i->j=j'
 | [],j,j',r,r',i,_,h,_,_,_=>by simp at h
 |r0 :: l,j,j',r,r',i,hn,h,h',ho,aHP=>by
  have Aj:nodup (ownIds st l)=true:=by
   cases r0 with
   |cell=>exact hn
   |tmp t=>simp only[ownIds]at hn;exact(Cs hn).1
  have Qv:∀r1,ownOf st r0=some i->∀k:Nat,l[k]?=some r1->ownOf st r1=some i->False:=by
   intro r1 h0 k hk h1;have hm:=Mf hk h1;cases r0 with
   |cell=>cases h0
   |tmp t =>
    simp only[ownOf]at h0;split at h0
    ·rename_i i' n hf;cases h0;simp only[ownIds,hf]at hn;exact(Cs hn).2 i (by simp) hm
    ·rename_i i' o' n hf;cases h0;simp only[ownIds,hf]at hn;exact(Cs hn).2 i (by simp) hm
    ·cases h0
  match j,j' with
  |0,0=>rfl
  |0,j'+1=>simp at h h';subst h;exact(Qv r' ho j' h' aHP).elim
  |j+1,0=>simp at h h';subst h';exact(Qv r aHP j h ho).elim
  |j+1,j'+1=>simp at h h';exact congrArg (·+1) (Mg Aj h h' ho aHP)
theorem Od:∀{ds:List D} {i t:Nat},(∃d,ds[t]?=some d/\argFrI i ds t=argAt (i+t) d)\/argFrI i ds t=.any
 | [],_,_=>.inr (by simp[argFrI])
 |d :: _,_,0=>.inl ⟨d,rfl,rfl⟩
 |_ :: ds,i,t+1=>by
  rcases Od (ds:=ds) (i:=i+1) (t:=t)with ⟨d,h1,h2⟩ |h
  ·exact .inl ⟨d,by simpa using h1,by rw[show i+(t+1)=i+1+t by omega];exact h2⟩
  ·exact .inr h
theorem Rj:∀{ds:List D} {i j:Nat} {b:mI},argHp i ds j=some b->i<=j/\∃e k ns off n,ds[j-i]?=some (.io e k ns off n)/\b=⟨e,.ints k ns⟩
 | [],_,_,_,h=>by cases h
 |d :: ds,i,j,b,h=>by
  have tail:argHp (i+1) ds j=some b->i<=j/\∃e k ns off n,(d :: ds)[j-i]?=some (.io e k ns off n)/\b=⟨e,.ints k ns⟩:=by
   intro h;obtain⟨h1,e,k,ns,off,n,h2,h3⟩:=Rj h;exact⟨by omega,e,k,ns,off,n,by rw[show j-i=(j-(i+1))+1 by omega];simpa using h2,h3⟩
  cases d with
  |io e k ns off n =>
   simp only[argHp]at h;cases hb:bXI j i with
   |true =>
    rw[hb]at h;have:=bXT hb;subst this;cases h;exact⟨bXK _,e,k,ns,off,n,by simp,rfl⟩
   |false=>rw[hb]at h;exact tail h
  |s=>exact tail h
  |rows=>exact tail h
  |agg=>exact tail h
  |own=>exact tail h
  |back=>exact tail h
theorem Xx:∀{ds:List D} {i t:Nat} {e:TypeId} {k:IntKind} {ns:List Int} {off n:Nat},ds[t]?=some (.io e k ns off n)->argHp i ds (i+t)=some ⟨e,.ints k ns⟩
 | [],_,_,_,_,_,_,_,h=>by simp at h
 |d :: ds,i,0,e,k,ns,off,n,h=>by
  simp at h;subst h;simp[argHp]
 |d :: ds,i,t+1,e,k,ns,off,n,h=>by
  have ih:=Xx (i:=i+1) (ds:=ds) (t:=t) (by simpa using h);rw[show i+1+t=i+(t+1) by omega]at ih;cases d with
  |io e' k' oN bCC n' =>
   simp only[argHp];rw[show bXI (i+(t+1)) i=false from by
    cases hb:bXI (i+(t+1)) i with
    |false=>rfl
    |true=>have:=bXT hb;omega]
   exact ih
  |s=>exact ih
  |rows=>exact ih
  |agg=>exact ih
  |own=>exact ih
  |back=>exact ih
theorem aCR{Y:Nat->Prop}{w:World}{g:Nat->Nat}{i:Nat}{v:Value}{d:D}(hn:Gf d=false)(h:aFC Y w g i v d):oW Y w d v:=by
 cases d with
 |io=>cases hn
 |s x=>exact h
 |rows a b c=>exact h
 |agg cs=>exact h
 |own a b c=>exact h
 |back=>exact h
end
theorem oneOf(vs:List Value):(if h:vs.toArray.size=1 then vs.toArray[0]else Value.tuple vs.toArray)=resV vs:=by
 match vs with
 | []=>simp[resV]
 | [v]=>simp[resV]
 |_ :: _ :: _=>simp[resV]
theorem fn_core{P:Program}{E:Env}(hT:qA P E.T)(hC:lZ P E)(hm:P.follows .mixedOrders=true){f:FuncId}{fn:Func}{c:Code}(hf:P.funcs[f]?=some fn)(hb:fn.body=some c)(bDC:E.nt=fn.ntmps)
  {ds rs js:List D} (hle:ds.length<=fn.ntmps) (he:aG E fn c ds=some (rs ++ js)) (aDO:js.length=E.io.length) (jM:∀i,i∈E.io->i<E.n0)
  (Zx:∀(i:Nat) (d:D),ds[i]?=some d->Gf d=true->i∈E.io) (En:∀i,i∈E.io->∃e k ns off n,ds[i]?=some (.io e k ns off n))
  {Y:Nat->Prop} {w:World} {vs:List Value} {g0:Nat->Nat} (hY:∀b,Y b->b<w.heap.size) (hG:GlobOk E.glob Y w) (hlen:ds.length=vs.length)
  (hargs:∀(i:Nat) (d:D) (v:Value),ds[i]?=some d->vs[i]?=some v->aFC Y w g0 i v d) (bDQ:∀i j,i∈E.io->j∈E.io->g0 i=g0 j->i=j) :
  Calls P f vs.toArray w fun e w'=>∃Ag,e=.returned (resV Ag)/\Eu (Em E.io g0) w w'/\Ug Y w.heap.size w' E.io js g0 rs Ag/\∀(j i:Nat) (d:D),E.io[j]?=some i->js[j]?=some d->Us w' (g0 i) d:=by
 refine calls_of_wp hf hb ?_;have bKW:∀i e k ns off n,ds[i]?=some (.io e k ns off n)->Y (g0 i)/\∃v,vs[i]?=some v/\bAB w (g0 i) e k ns off n v:=by
  intro i e k ns off n hi;obtain⟨v,hv⟩:=cK (l:=vs) (i:=i) (by have:=bJ hi;omega);have:=hargs i _ v hi hv;exact⟨this.1,v,hv,this.2⟩
 have bKT:∀b,Em E.io g0 b->Y b:=by
  rintro b ⟨i,hi,rfl⟩;obtain⟨e,k,ns,off,n,h⟩:=En i hi;exact(bKW i e k ns off n h).1
 obtain⟨w0,Zr⟩:∃w0:Old,w0=⟨w,Em E.io g0,g0,fun b hb=>hY b (bKT b hb)⟩:=⟨_,rfl⟩;have aFU:w0.w=w:=by rw[Zr]
 have aKS:w0.M=Em E.io g0:=by rw[Zr]
 have bCR:w0.g=g0:=by rw[Zr]
 have aXB:∀j b,argHp 0 ds j=some b->j∈E.io/\∃e k ns off n,ds[j]?=some (.io e k ns off n)/\b=⟨e,.ints k ns⟩:=by
  intro j b hj;obtain⟨_,e,k,ns,off,n,h1,h2⟩:=Rj hj;rw[Nat.sub_zero]at h1;exact⟨Zx j _ h1 rfl,e,k,ns,off,n,h1,h2⟩
 have Zs:jT E (fun b=>Y b/\¬Em E.io g0 b) w0 g0 (fun i=>i<E.n0) (Xy ds) (argHp 0 ds) { tmps:=vs.toArray ++ Array.replicate (fn.ntmps-vs.toArray.size) undef,defers:=[] } w:=by
  have hx:∀b,XO (fun b=>Y b/\¬Em E.io g0 b) g0 (argHp 0 ds) b->Y b:=by
   rintro b (h |⟨i,bl,h,rfl⟩)
   ·exact h.1
   ·exact bKT _ ⟨i,(aXB i bl h).1,rfl⟩
  have hl:jB Y w (XO (fun b=>Y b/\¬Em E.io g0 b) g0 (argHp 0 ds)) w:=⟨bXK _,fun b _ h=>⟨rfl,fun h'=>h (hx b h')⟩⟩;have xE:∀t,(∃d,ds[t]?=some d/\Xy ds t=argAt t d)\/Xy ds t=.any:=by
   intro t;have:=Od (ds:=ds) (i:=0) (t:=t);rw[bXL]at this;exact this
  refine { fr:=?_,sz:=by simp[bDC];omega,nod:=rfl,blk:=?_,inj:=?_,alh:=?_,alr:=?_,below:=by rw[aFU];exact Kept.refl _ _,x0:=?_,glob:=?_,mg:=?_,al0:=fun _ h=>h,rB:=fun _ _=>by rw[bCR] }
  ·intro t;rcases xE t with ⟨d,h1,h2⟩ |h
   ·rw[h2];have ht:=bJ h1;obtain⟨v,hv⟩:=cK (l:=vs) (i:=t) (by omega);have e:(vs.toArray ++ Array.replicate (fn.ntmps-vs.toArray.size) undef).getD t undef=v:=by
     rw[Array.getD_eq_getD_getElem?,Array.getElem?_append_left (by simp;omega)];simp[hv]
    rw[e];cases hd:Gf d with
    |false =>
     have hr:=(aCR hd (hargs t d v h1 hv)).later hl;cases d with
     |io=>cases hd
     |own e k ns=>exact hr
     |s x=>exact hr
     |rows a b c=>exact hr
     |agg cs=>exact hr
     |back=>exact hr.elim
    |true =>
     cases d with
     |io e' k ns off n =>
      obtain⟨_,v',bNH,⟨o',cap,h3,h4,h5,h6,h7⟩,_⟩:=bKW t _ _ _ _ _ h1;rw[hv]at bNH;cases bNH;refine⟨o',cap,h3,h4,h5,h6,fun blk k1 aDG Je aGA=>?_⟩;have:=Xx (i:=0) h1;rw[bXL]at this;rw[this]at Je;cases Je;cases aGA;exact h7
     |own=>cases hd
     |s=>cases hd
     |rows=>cases hd
     |agg=>cases hd
     |back=>cases hd
   ·rw[h];trivial
  ·intro id b hb;obtain⟨h1,e,k,ns,off,n,h2,rfl⟩:=aXB id b hb;obtain⟨_,v,_,_,h3⟩:=bKW id _ _ _ _ _ h2;exact⟨.inr ⟨jM id h1,by rw[aKS];exact⟨id,h1,rfl⟩⟩,h3⟩
  ·intro id Yk b b' h1 h2 h3;exact bDQ id Yk (aXB id b h1).1 (aXB Yk b' h2).1 h3
  ·intro id b h1;exact jM id (aXB id b h1).1
  ·intro t i hi;rcases xE t with ⟨d,h1,h2⟩ |h
   ·rw[h2]at hi;cases d with
    |io e' k ns off n =>
     simp[argAt,refs,refsV,refsL]at hi;subst hi;exact jM _ (Zx _ _ h1 rfl)
    |own=>cases hi
    |s=>cases hi
    |rows=>cases hi
    |agg=>cases hi
    |back=>cases hi
   ·rw[h]at hi;cases hi
  ·rintro b ⟨h1,h2⟩ (hm |hm)
   ·rw[aFU]at hm;have:=hY b h1;omega
   ·rw[aKS]at hm;exact h2 hm
  ·rw[aFU];intro g k ns hg;obtain⟨h1,h2,h3⟩:=hG g k ns hg;exact⟨h1,fun h=>h2 h.1,h3.later ⟨bXK _,fun b _ hb=>⟨rfl,fun h=>hb h.1⟩⟩⟩
  ·intro g q hg hm;rw[aKS]at hm;obtain⟨k,ns⟩:=q;exact(hG g k ns hg).2.1 (bKT _ hm)
 have bUQ:∀b,Y b->(Y b/\¬Em E.io g0 b)\/Em E.io g0 b:=fun b hb=>by
  by_cases h:Em E.io g0 b
  ·exact .inr h
  ·exact .inl ⟨hb,h⟩
 unfold aG at he;refine aAL hT hC hm _ c _ _ _ g0 _ w Zs he ?_;intro ex st ρ a' w' hK hs;have bJZ:(∃i,ex=.exit i)\/(nodup (ownIds st fn.results.toList)=true/\fn.results.toList.mapM (resD E st)=some rs/\E.io.mapM (bCM st)=some js):=by
  have Aj:(bif nodup (ownIds st fn.results.toList)then(match E.io with
  | []=>fn.results.toList.mapM (resD E st)
  |p :: ps=>match fn.results.toList.mapM (resD E st),(p :: ps).mapM (bCM st)with
   |some rs,some is=>some (rs ++ is)
   |_,_=>none)else none)=some (rs ++ js)->(nodup (ownIds st fn.results.toList)=true/\fn.results.toList.mapM (resD E st)=some rs/\E.io.mapM (bCM st)=some js):=by
   intro hK;cases hn:nodup (ownIds st fn.results.toList)with
   |false=>rw[hn]at hK;cases hK
   |true =>
    rw[hn]at hK;simp only[cond_true]at hK;refine⟨rfl,?_⟩
    match Nb:E.io,hK with
    | [],hK =>
     rw[Nb]at aDO;have:js=[]:=bZB aDO;subst this;rw[cAG]at hK;exact⟨hK,rfl⟩
    |p :: ps,hK =>
     simp only at hK;split at hK
     ·rename_i aPY js' h1 h2;have bAQ:=(Bg h2).1;rw[Nb]at aDO;have:=List.append_inj' (Option.some.inj hK) (by rw[bAQ,aDO]);rw[h1,h2,this.1,this.2];exact⟨rfl,rfl⟩
     ·cases hK
  cases ex with
  |exit i=>exact .inl ⟨i,rfl⟩
  |normal=>exact .inr (Aj hK)
  |ret=>exact .inr (Aj hK)
 rcases bJZ with ⟨i,rfl⟩ |⟨hn,aWY,bTL⟩
 ·cases hK
 have key:a'.defers=[]/\∃v,(results fn a'.tmps).run P w'=.ok v w'/\∃Ag,Ending.returned v=.returned (resV Ag)/\Eu (Em E.io g0) w w'/\Ug Y w.heap.size w' E.io js g0 rs Ag/\∀(j i:Nat) (d:D),E.io[j]?=some i->js[j]?=some d->Us w' (g0 i) d:=by
  refine⟨hs.nod,?_⟩;obtain⟨bDM,aUS⟩:=Bg aWY
  let X':Nat->Prop:=fun b=>Y b/\¬Em E.io g0 b
  let aYI (r:ResultVar) (d:D) (v:Value):Prop:=(Hn a' r).run P w'=.ok v w'/\Good E X' w.heap.size st ρ w' r v d
  have hex:∀r,∃v,∀d,resD E st r=some d->aYI r d v:=by
   intro r;cases hd:resD E st r with
   |none=>exact⟨undef,fun d h=>by cases h⟩
   |some d =>
    obtain⟨v,h1,h2⟩:=Zg hT hs hd;rw[aFU]at h2;exact⟨v,fun d' h=>by cases h;exact⟨h1,h2⟩⟩
  obtain⟨g,bTZ⟩:=Classical.axiomOfChoice hex;have hg:∀r d,r∈fn.results.toList->resD E st r=some d->aYI r d (g r):=fun r d _ hd=>bTZ r d hd
  have iC:(fn.results.mapM (Hn a')).run P w'=.ok (fn.results.toList.map g).toArray w' :=
   aKI fun r hr=>by
    obtain⟨i,hi⟩:=List.mem_iff_getElem?.1 hr;obtain⟨d,_,hd⟩:=aUS i r hi;exact(hg r d hr hd).1
  have Zt:(results fn a'.tmps).run P w'=.ok (resV (fn.results.toList.map g)) w':=by
   have e:results fn a'.tmps=(fn.results.mapM (Hn a') >>= fun vs=>pure (if h:vs.size=1 then vs[0]else Value.tuple vs)):=by
    unfold results;congr 1
   rw[e,Sem.run_bind,iC,Result.andThen_ok,Sem.run_pure];congr 1;exact oneOf _
  have Na:=hs.below;rw[aFU]at Na;have bCT:Eu (Em E.io g0) w w':=⟨Na.os,Na.tape,Na.output,Na.size,fun b hb hM=>Na.block b (fun hm=>by
   rcases hm with hm |hm
   ·rw[aFU]at hm;omega
   ·rw[aKS]at hm;exact hM hm),fun b hM=>Na.room b (by rw[aKS];exact hM)⟩
  have aKZ:∀(j i:Nat) (d:D),E.io[j]?=some i->js[j]?=some d->∃e k ns,d=.io e k ns 0 0/\st.hp i=some ⟨e,.ints k ns⟩/\ρ i=g0 i:=by
   intro j i d hj hd;obtain⟨_,h2⟩:=Bg bTL;obtain⟨d',h3,h4⟩:=h2 j i hj;rw[hd]at h3;cases h3;unfold bCM at h4;split at h4
   ·rename_i e k ns hb;cases h4;refine⟨e,k,ns,rfl,hb,?_⟩;have:=hs.rB i (jM i (bXQ hj));rw[bCR]at this;exact this
   ·cases h4
  have bUR:∀b,Y b->XO X' ρ st.hp b:=by
   intro b hb;rcases bUQ b hb with h |⟨i,hi,rfl⟩
   ·exact .inl h
   ·obtain⟨j,hj⟩:=List.mem_iff_getElem?.1 hi;obtain⟨d,hd⟩:=cK (l:=js) (i:=j) (by have:=bJ hj;omega);obtain⟨e,k,ns,_,h1,h2⟩:=aKZ j i d hj hd;exact .inr ⟨i,_,h1,h2⟩
  refine⟨_,Zt,_,rfl,bCT,?_,?_⟩
  ·have bOT:∀(i:Nat) (d:D),rs[i]?=some d->∃r,fn.results.toList[i]?=some r/\resD E st r=some d/\aYI r d (g r):=by
    intro i d hi;obtain⟨r,hr⟩:=cK (l:=fn.results.toList) (i:=i) (by have:=bJ hi;omega);obtain⟨d',h1,h2⟩:=aUS i r hr;rw[hi]at h1;cases h1;exact⟨r,hr,h2,hg r d (bXQ hr) h2⟩
   let blk (i:Nat):Nat:=match fn.results.toList[i]? with
    |some r=>match ownOf st r with
     |some j=>ρ j
     |none=>0
    |none=>0
   have tY:∀(i:Nat) (d:D),rs[i]?=some d->mA d=true->∃r j b,fn.results.toList[i]?=some r/\ownOf st r=some j/\st.hp j=some b/\blk i=ρ j:=by
    intro i d hi ho;obtain⟨r,h1,h2,h3⟩:=bOT i d hi;cases d with
    |own e k ns =>
     obtain⟨_,j,h4,⟨b,h5⟩,_⟩:=h3;exact⟨r,j,b,h1,h4,h5,by simp only[blk,h1,h4]⟩
    |_=>cases ho
   refine⟨blk,by simp[bDM],?_,?_⟩
   ·intro i j d d' hi hj ho aHP Dk;obtain⟨r,k,b,h1,h2,h3,h4⟩:=tY i d hi ho;obtain⟨r',k',b',aDW,aYH,aYG,bLB⟩:=tY j d' hj aHP;rw[h4,bLB]at Dk;have:=hs.inj k k' b b' h3 aYG Dk;subst this;exact Mg hn h1 aDW h2 aYH
   ·intro i d v hi hv;obtain⟨r,h1,h2,h3⟩:=bOT i d hi;have e:v=g r:=by
     rw[bXM,h1]at hv;exact(Option.some.inj hv).symm
    subst e;have hl:jB (XO X' ρ st.hp) w' (fun b=>Y b\/∃(j:Nat) (d':D),rs[j]?=some d'/\mA d'=true/\blk j=b) w':=by
     refine⟨bXK _,fun b _ hx=>⟨rfl,fun hb=>hx ?_⟩⟩;rcases hb with hb |⟨j,d',hj,ho,rfl⟩
     ·exact bUR b hb
     ·obtain⟨r',k,b',_,_,h5,h6⟩:=tY j d' hj ho;exact .inr ⟨k,b',h5,h6.symm⟩
    cases d with
    |own e k ns =>
     obtain⟨_,j,h4,_,h5⟩:=h3;have:blk i=ρ j:=by simp only[blk,h1,h4]
     show Rm _ _ (blk i) _ _ _ _;rw[this];exact h5
    |s x=>exact oW.later hl (d:=.s x) h3.2
    |rows sz n fr=>exact oW.later hl (d:=.rows sz n fr) h3.2
    |agg cs=>exact oW.later hl (d:=.agg cs) h3.2
    |io=>exact h3.2.elim
    |back p off n =>
     obtain⟨_,h4,h5⟩:=h3;obtain⟨j,hj⟩:=List.mem_iff_getElem?.1 h4;obtain⟨d,hd⟩:=cK (l:=js) (i:=j) (by have:=bJ hj;omega);obtain⟨e,k,ns,rfl,h6,h7⟩:=aKZ j p d hj hd;have:=h5 _ k ns h6 rfl;rw[h7]at this;exact⟨j,e,k,ns,hj,hd,this⟩
  ·intro j i d hj hd;obtain⟨e,k,ns,rfl,h1,h2⟩:=aKZ j i d hj hd;have:=(hs.blk i _ h1).2;rw[h2]at this;exact this
 cases ex with
 |normal=>exact key
 |ret=>exact key
 |exit i=>cases hK
theorem Eu.below{M:Nat->Prop}(hM:∀b,¬M b){w w':World}(h:Eu M w w'):Below w.heap.size w w':=⟨h.os,h.tape,h.output,h.size,fun k hk=>h.block k hk (hM k)⟩
theorem fn_contract{P:Program}{E:Env}(hT:qA P E.T)(hC:lZ P E)(hm:P.follows .mixedOrders=true){f:FuncId}{fn:Func}{c:Code}(hf:P.funcs[f]?=some fn)(hb:fn.body=some c)(bDC:E.nt=fn.ntmps)(Nb:E.io=[])
  {ds rs:List D} (hle:ds.length<=fn.ntmps) (he:aG E fn c ds=some rs):Contract P E.glob f ds rs:=by
 intro Y w vs hY hG hlen hargs;have Cw:∀(i:Nat) (d:D),ds[i]?=some d->Gf d=false:=by
  intro i d hi;obtain⟨v,hv⟩:=cK (l:=vs) (i:=i) (by have:=bJ hi;omega);have:=hargs i d v hi hv;cases d with
  |io=>exact this.elim
  |s=>rfl
  |rows=>rfl
  |agg=>rfl
  |own=>rfl
  |back=>rfl
 have:=fn_core hT hC hm hf hb bDC (rs:=rs) (js:=[]) hle (by rw[cAG];exact he) (by rw[Nb];rfl) (by rw[Nb];intro i hi;cases hi) (fun i d hi hd=>by rw[Cw i d hi]at hd;cases hd) (by rw[Nb];intro i hi;cases hi) (g0:=fun _=>0) hY hG hlen (fun i d v hi hv=>Oc (Cw i d hi) (hargs i d v hi hv)) (by rw[Nb];intro i j hi;cases hi);refine this.mono ?_;rintro e w' ⟨Ag,h1,h2,⟨g,h3,h4,h5⟩,_⟩;refine⟨Ag,h1,h2.below (fun b=>by rintro ⟨i,hi,_⟩;rw[Nb]at hi;cases hi),g,h3,h4,fun i d v hi hv=>?_⟩;have:=h5 i d v hi hv;cases d with
 |own e k ns=>exact this
 |s x=>exact this
 |rows a b c=>exact this
 |agg cs=>exact this
 |io=>exact this
 |back p off n =>
  obtain⟨j,e,k,ns,h6,_⟩:=this;rw[Nb]at h6;simp at h6
theorem Pr{P:Program}{E:Env}(hT:qA P E.T)(hC:lZ P E)(hm:P.follows .mixedOrders=true){f:FuncId}{fn:Func}{c:Code}(hf:P.funcs[f]?=some fn)(hb:fn.body=some c)(bDC:E.nt=fn.ntmps)(jM:∀i,i∈E.io->i<E.n0)
  {ds rs js:List D} (hle:ds.length<=fn.ntmps) (he:aG E fn c ds=some (rs ++ js)) (aDO:js.length=E.io.length) (hL:aUY E.io ds js) (Zx:∀(i:Nat) (d:D),ds[i]?=some d->Gf d=true->i∈E.io):qL P E.glob f E.io ds rs js:=by
 refine⟨aDO,hL,fun Y w vs g hY hG hlen hargs Bl=>?_⟩;refine fn_core hT hC hm hf hb bDC hle he aDO jM Zx (fun i hi=>?_) hY hG hlen hargs Bl;obtain⟨j,hj⟩:=List.mem_iff_getElem?.1 hi;obtain⟨e,k,ns,off,n,_,_,_,h1,_⟩:=hL j i hj;exact⟨e,k,ns,off,n,h1⟩
def kindOf(P:Program):TypeDesc->Option TK
 | .bool=>some .bool
 | .int k=>some (.int k)
 | .float k=>some (.float k)
 | .slice e=>some (.slice e)
 | .string=>some .str
 | .struct fields=>(fields.toList.mapM fun(f:Field)=>match P.info? f.type,P.underlying f.type with
  |some fi,some fd=>some (f.offset,fi.size,tS fd)
  |_,_=>none).map .struct
 | .array len e=>match P.info? e,P.underlying e with
  |some ei,some ed=>some (.arr len ei.size (tS ed))
  |_,_=>none
 |_=>some .other
def tiOf(P:Program)(t:TypeId):Option TI:=match P.info? t,P.underlying t with
 |some i,some d=>match i.zero,kindOf P d with
  |some z,some k=>some ⟨i.size,i.bytes,z.cells.toList,k⟩
  |_,_=>none
 |_,_=>none
def aVJ(ti:TI):Bool:=bXI ti.zero.length ti.size&&ti.zero.all fun v=>v.oneCell'
theorem aFS{P:Program}{d:TypeDesc}{k:TK}(h:kindOf P d=some k):Ox P k d:=by
 unfold kindOf at h;split at h
 ·cases h;rfl
 ·cases h;rfl
 ·cases h;rfl
 ·cases h;rfl
 ·cases h;rfl
 ·rename_i fields;cases hm:(fields.toList.mapM fun(f:Field)=>match P.info? f.type,P.underlying f.type with
   |some fi,some fd=>some (f.offset,fi.size,tS fd)
   |_,_=>none)with
  |none=>rw[hm]at h;cases h
  |some fs =>
   rw[hm]at h;cases h;obtain⟨h1,h2⟩:=Bg hm;refine⟨fields,rfl,by simpa using h1,fun i f hf=>?_⟩;obtain⟨y,e1,e2⟩:=h2 i f (by simpa using hf);split at e2
   ·rename_i fi fd bGH bUB;cases e2;exact⟨fi,fd,bGH,bUB,e1⟩
   ·cases e2
 ·rename_i len e;split at h
  ·rename_i ei ed bUH bGI;cases h;exact⟨e,ei,ed,rfl,bUH,rfl,bGI,rfl⟩
  ·cases h
 ·rename_i h1 h2 h3 h4 h5 h6 h7;cases h;show tS d=false;cases d <;> first |rfl | (exfalso;exact h6 _ rfl) | (exfalso;exact h7 _ _ rfl)
def eqChk(P:Program)(t:TypeId)(ti:TI):Bool:=match yY ti with
 |some ks=>(match P.underlying t with
  |some (.struct fields)=>!P.stoodInHeld t&&(eqChkF P 0 fields.toList ks&&!P.eqGuardType P.depth t)
  |_=>false)
 |none=>true
theorem aLX{P:Program}{t:TypeId}{ti:TI}(h:eqChk P t ti=true)(ks:List IntKind)(hk:yY ti=some ks):bAD P t ks:=by
 unfold eqChk at h;rw[hk]at h;simp only at h;split at h
 ·rename_i fields hf;simp only[bXN,bYM]at h;exact⟨fields,hf,h.1,h.2.1,h.2.2⟩
 ·cases h
theorem aIG{P:Program}{t:TypeId}{ti:TI}(h:tiOf P t=some ti)(hk:aVJ ti=true)(hq:eqChk P t ti=true):Dy P t ti:=by
 have heq:=aLX hq;unfold tiOf at h;split at h
 ·rename_i i d hi hd;split at h
  ·rename_i z k hz bTJ;cases h;unfold aVJ at hk;simp only[bXN]at hk;exact { i:=⟨i,hi,rfl,rfl,z,hz,rfl⟩,zl:=bXT hk.1,zo:=fun v hv=>List.all_eq_true.1 hk.2 v hv,d:=⟨d,hd,aFS bTJ⟩,eq:=heq }
  ·cases h
 ·cases h
def tlook{α:Type}:List (Nat×α)->Nat->Option α
 | [],_=>none
 |p :: r,t=>bif bXI p.1 t then some p.2 else tlook r t
theorem xM{α:Type}:∀{l:List (Nat×α)} {t:Nat} {x:α},tlook l t=some x->(t,x)∈l
 | [],t,x,h=>by cases h
 |p :: r,t,x,h=>by
  simp only[tlook]at h;cases hb:bXI p.1 t with
  |true =>
   rw[hb]at h;cases h;have:=bXT hb;subst this;exact bXO ..
  |false=>rw[hb]at h;exact bXX _ (xM h)
theorem aPK{P:Program}(Ll:List (Nat×TI))(h:Ll.map (fun p=>tiOf P p.1)=Ll.map fun p=>some p.2)(hk:(Ll.all fun p=>aVJ p.2)=true)(hq:(Ll.all fun p=>eqChk P p.1 p.2)=true):qA P (tlook Ll):=by
 intro t ti ht;have hm:=xM ht;have h1:tiOf P t=some ti:=by
  have:=List.map_inj_left.1 h (t,ti) hm;exact this
 exact aIG h1 (List.all_eq_true.1 hk (t,ti) hm) (List.all_eq_true.1 hq (t,ti) hm)
end AI
end Go.Proofs.YtaajbopgknekmaaGreatDoor
end
