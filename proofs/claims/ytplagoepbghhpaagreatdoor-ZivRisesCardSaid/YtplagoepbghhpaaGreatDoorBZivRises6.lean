/- Contracts. -/
import Derived.WalkKit
import Derived.ProofKit
import Derived.OpenShut
import Derived.Carry
import Derived.LaidMore
import Derived.MakeChecks
import Derived.Test.YtplagoepbghhpaaGreatDoorBZivRises5
set_option linter.unusedVariables false
set_option linter.unusedSimpArgs false
set_option exponentiation.threshold 10000000
noncomputable section
open Go.IntKind(i8 i16 i32 i64 u8 u16 u32 u64)
open Go.Proofs.Tryz
open List renaming getElem?_eq_getElem->bZK,getElem?_map->bYX
namespace Go.Proofs.YtplagoepbghhpaaGreatDoor
open Go.Value(int bool slice)
open AI.S(sc ints)
namespace W
open Go AI M
namespace bCK
def E:=mE [] 12 [] [] []
def aF:=bd f30
theorem aX:Nk E aF:=nk
theorem start a:aI E f30 aF [D.s (sc (int i64 a))]=letI B:=int i64 0;letI A:=int u64 0;aB (a==32) (some [D.agg [sc (int u64 2147483648),sc (int i64 24),sc (int i64 (-149:Int)),sc (int i64 104),sc (int u64 2139095040),sc (int u64 2143289345)],D.s (sc (bool true))]) (aB (a==64) (some [D.agg [sc (int u64 9223372036854775808),sc (int i64 53),sc (int i64 (-1074:Int)),sc (int i64 971),sc (int u64 9218868437227405312),sc (int u64 9221120237041090561)],D.s (sc (bool true))]) (some [D.agg [sc A,sc B,sc B,sc B,sc A,sc A],D.s (sc (bool false))])):=eJ aX
def fS(f:Int):Int:=if f=32 then 2147483648 else if f=64 then 9223372036854775808 else 0
def fP(f:Int):Int:=if f=32 then 24 else if f=64 then 53 else 0
def fE(f:Int):Int:=if f=32 then -149 else if f=64 then -1074 else 0
def fG(f:Int):Int:=if f=32 then 104 else if f=64 then 971 else 0
def fI(f:Int):Int:=if f=32 then 2139095040 else if f=64 then 9218868437227405312 else 0
def fQ(f:Int):Int:=if f=32 then 2143289345 else if f=64 then 9221120237041090561 else 0
def sp(f:Int):Prop×List D:=(True,[.agg [.sc (.int .u64 (fS f)),.sc (.int .i64 (fP f)),.sc (.int .i64 (fE f)),.sc (.int .i64 (fG f)),.sc (.int .u64 (fI f)),.sc (.int .u64 (fQ f))],.s (.sc (.bool (f==32||f==64)))])
theorem spec:jL E f30 aF (pN .i64) sp:=by
 intro f _;refine(start f).trans ?_
 by_cases h1:f=32
 ·subst h1;rfl
 ·by_cases h2:f=64
  ·subst h2;rfl
  ·rw[bJ h1,bJ h2];simp[sp,fS,fP,fE,fG,fI,fQ,h1,h2]
def aJ:dK:=orc1 (pN .i64) sp
theorem ok:OK 30 aJ:=(fJ E aF aD func30).qB rfl spec
end bCK
namespace Pp
def E:=mE [(30,bCK.aJ)] 21 [] [] []
def aF:=bd f86
theorem aX:Nk E aF:=nk
theorem start a b:aI E f86 aF [D.s (sc (int i64 a)),D.s (sc (int u64 b))]=aO True (aB (!(a==32||a==64)) (some [D.s (sc (int i64 1))]) (aB (decide (bCK.fS a<=u64.wrap (b.tdiv 2))) (some [D.s (sc (int i64 2))]) (some [D.s (sc (int i64 0))]))):=eJ aX
def aUL(f b:Int):Int:=bif lU.Ab f then(bif cC.fB f b then 0 else 2)else 1
def sp(f b:Int):Prop×List D:=(0<=b/\b<18446744073709551616,[.s (.sc (.int .i64 (aUL f b)))])
theorem spec:hI E f86 aF (pN .i64) (pN .u64) sp:=by
 intro f b h;have h:0<=b/\b<18446744073709551616:=h;refine(start f b).trans ((gP trivial).trans ?_);unfold sp aUL lU.Ab;rw[Int.tdiv_eq_ediv_of_nonneg h.1,wrap_u64 (n:=b/2)]
 by_cases h1:f=32
 ·subst h1;rw[show bCK.fS 32=2147483648 from rfl]
  by_cases hc:b<4294967296
  ·have:cC.fB 32 b=true:=by unfold cC.fB;rw[decide_eq_true hc,Bool.or_true]
   rw[aL,this];rfl
  ·have:cC.fB 32 b=false:=by unfold cC.fB;rw[decide_eq_false hc];rfl
   rw[aQ,this];rfl
 ·by_cases h2:f=64
  ·subst h2;rw[show bCK.fS 64=9223372036854775808 from rfl,aL];rfl
  ·rw[beq_eq_false_iff_ne.2 h1,beq_eq_false_iff_ne.2 h2,decide_eq_false (show ¬(f=32\/f=64) by omega)];rfl
def aJ:dK:=orc2 (pN .i64) (pN .u64) sp
theorem ok:OK 86 aJ:=(fJ E aF (aA bCK.ok aD) func86).nF rfl spec
end Pp
namespace Gy
def E:=mE [(86,Pp.aJ)] 16 [15] [] []
def aF:=bd f33
theorem aX:Nk E aF:=nk
theorem start a b c:aI E f33 aF [D.s (sc (int i64 a)),D.s (sc (int i64 b)),D.s (sc (int u64 c))]=letI A:=some [D.s (sc (int i64 1))];aB (decide (b<1)) A (aB (decide (6<b)) A (aO (0<=c/\c<18446744073709551616) (some [D.s (sc (int i64 (Pp.aUL a c)))]))):=eJ aX
def bCI(f fn b:Int):Int:=if fn<1 then 1 else if 6<fn then 1 else Pp.aUL f b
def sp(f fn b:Int):Prop×List D:=(0<=b/\b<18446744073709551616,[.s (.sc (.int .i64 (bCI f fn b)))])
theorem spec:pO E f33 aF (pN .i64) (pN .i64) (pN .u64) sp:=by
 intro f fn b h;refine(start f fn b).trans ?_;unfold sp bCI;dsimp only
 by_cases h1:fn<1
 ·rw[aQ h1,if_pos h1]
 ·rw[aL h1,if_neg h1]
  by_cases h2:6<fn
  ·rw[aQ h2,if_pos h2]
  ·rw[aL h2,if_neg h2,gP (show 0<=b/\b<18446744073709551616 from h)]
def aJ:dK:=orc3 (pN .i64) (pN .i64) (pN .u64) sp
theorem ok:OK 33 aJ:=(fJ E aF (aA Pp.ok aD) func33).zR rfl spec
end Gy
namespace LawZRises
def E:=mE [(24,Lq.aJ),(33,Gy.aJ),(34,Dc.aJ),(35,iA.aJ),(36,mY.aJ),(26,fC.aJ)] 138 [] [(6,[2,3,9,10]),(12,[2,3,9,10,11,14,16,18]),(14,[2,3,9,10,11]),(18,[9,11,20,21,22,23]),(20,[9,11,20,22])] [6,12,14,18,20]
def aF:=bd f8
theorem aX:Nk E aF:=nk
def J6 a b c d:=mU E f8 aF 6 [cY a,cY b,cA c,cA d]
def aQX a b c d e f g h:=mU E f8 aF 12 [cY a,cY b,cA c,cA d,cA e,cA f,cA g,cA h]
def aKC a b c d e:=mU E f8 aF 14 [cY a,cY b,cA c,cA d,cA e]
def bCN a b c d e f:=mU E f8 aF 18 [cA a,cA b,cY c,Jv d,cY e,Jv f]
def bRN a b c d:=mU E f8 aF 20 [cA a,cA b,cY c,cY d]
theorem start a b c d:aI E f8 aF [D.s (sc (int i64 a)),D.s (sc (int i64 b)),D.s (sc (int u64 c)),D.s (sc (int u64 d))]=letI A:=some [D.s (sc (bool true))];aO True (aO (0<=c/\c<18446744073709551616) (aB (Gy.bCI a b c !=0) A (aO (0<=d/\d<18446744073709551616) (aB (Gy.bCI a b d !=0) A (LawZRises.J6 c d a b))))):=eJ aX
theorem Js a b c d:J6 a b c d=letI A:=Dc.aXK d;aO True (aC A.snd.fst fun e=>aC A.snd.snd fun f=>aO (iA.aCZ c a b) (aO ((c=32\/c=64)/\(-100:Int)<=e/\e<=100) (aO (iA.aCZ c (mY.Yf c e) a) (aO ((c=32\/c=64)/\(-100:Int)<=f/\f<=100) (aO (iA.aCZ c b (mY.Yf c f)) (LawZRises.aQX a b c d A.fst (iA.yX c a b) (iA.yX c (mY.Yf c e) a) (iA.yX c b (mY.Yf c f)))))))):=cJ aX
theorem Iz a b c d e f g h:aQX a b c d e f g h=letI A:=some [D.s (sc (bool true))];aB (e==0) A (aB (decide (0<f)) A (aB (decide (0<g)) A (aB (decide (0<h)) A (LawZRises.aKC a b c d e)))):=cJ aX
theorem Iy a b c d e:aKC a b c d e=letI C:=fC.oL c d b;letI B:=fC.oL c d a;letI A:=some [D.s (sc (bool false))];aO (0<=a/\a<18446744073709551616) (aC B.fst fun f=>aC B.snd.fst fun g=>aO (0<=b/\b<18446744073709551616) (aC C.fst fun h=>aC C.snd.fst fun i=>aB (fT.oW c d a !=0) A (aB (fT.oW c d b !=0) A (LawZRises.bCN c e f g h i)))):=cJ aX
theorem aDA a b c d e f:bCN a b c d e f=letI A:=some [D.s (sc (bool true))];aB (!d) A (aB (!f) A (LawZRises.bRN a b c e)):=cJ aX
theorem bAY a b c d:bRN a b c d=aO (iA.aCZ a c d) (aB (iA.yX a c d==0) (some [D.s (sc (bool true))]) (some [D.s (sc (bool (iA.yX a c d==i64.wrap ((0:Int)-b))))])):=cJ aX
open W.Ziv W.Qy
def sp(f fn a b:Int):Prop×List D:=((0<=a/\a<18446744073709551616)/\0<=b/\b<18446744073709551616,[.s (.sc (.bool true))])
theorem spec:Pd E f8 aF (pN .i64) (pN .i64) (pN .u64) (pN .u64) sp:=by
 rintro f fn a b ⟨ha,hb⟩;refine(start f fn a b).trans ?_;rw[gP trivial,gP ha];show aB (fT.oW f fn a !=0) _ (aO _ (aB (fT.oW f fn b !=0) _ _))=_
 by_cases aFM:fT.oW f fn a=0
 case neg=>rw[nZ aFM];rfl
 rw[gF aFM,gP hb]
 by_cases aFL:fT.oW f fn b=0
 case neg=>rw[nZ aFL];rfl
 rw[gF aFL];obtain⟨hf,bLC,f1,f6⟩:=yT aFM;obtain⟨_,bEM,_,_⟩:=yT aFL;have a2:0<=a/\a<2*sg f:=⟨ha.1,(wT hf ha bLC).1⟩;have b2:0<=b/\b<2*sg f:=⟨hb.1,(wT hf hb bEM).1⟩
 by_cases c6:fn=6
 ·subst c6;have e:Dc.aXK 6=(0,0,0):=rfl;obtain⟨l1,_,_⟩:=Ye hf (i:=0) (by decide);rw[Js,e,gP trivial,aH,aH,gP (yM hf a2 b2),gP ⟨hf,by decide,by decide⟩,gP (yM hf l1 a2),gP ⟨hf,by decide,by decide⟩,gP (yM hf b2 l1),Iz,cD rfl];rfl
 ·obtain⟨lo,hi,e,Rv,Qg,hR⟩:=aLT (fn:=fn) ⟨f1,by omega⟩;obtain⟨l1,_,_⟩:=Ye hf Rv;obtain⟨u1,_,_⟩:=Ye hf Qg;have bYI:-100<=lo/\lo<=100:=by omega
  have bYJ:-100<=hi/\hi<=100:=by omega
  have w0:¬(if fn=2\/fn=5 then(-1:Int)else 1)=0:=by split <;> decide
  rw[Js,e,gP trivial,aH,aH,gP (yM hf a2 b2),gP ⟨hf,bYI⟩,gP (yM hf l1 a2),gP ⟨hf,bYJ⟩,gP (yM hf b2 u1),Iz,bJ w0]
  by_cases c1:0<iA.yX f a b
  ·rw[aQ c1];rfl
  rw[aL c1]
  by_cases c2:0<iA.yX f (mY.Yf f lo) a
  ·rw[aQ c2];rfl
  rw[aL c2]
  by_cases c3:0<iA.yX f b (mY.Yf f hi)
  ·rw[aQ c3];rfl
  rw[aL c3,Iy,gP ha,aH,aH,gP hb,aH,aH,gF aFM,gF aFL,aDA];cases va:(fC.oL f fn a).2.1 with
  |false=>rfl
  |true =>
   cases vb:(fC.oL f fn b).2.1 with
   |false=>rfl
   |true =>
    obtain⟨x1,y1,m⟩:=aHC ha hb aFM aFL (by omega) Rv Qg hR c1 c2 c3 va vb;rw[Bool.not_true,bF,bF,bAY,gP (yM hf x1.1 y1.1),bAC hf x1.1 y1.1 x1.2 y1.2];generalize (fC.oL f fn a).1=X at *;generalize (fC.oL f fn b).1=Y at *
    by_cases c:fn=2\/fn=5
    ·rw[if_pos c]at m ⊢;rw[if_neg (show ¬ord f X<ord f Y by omega)]
     by_cases lt:ord f Y<ord f X
     ·rw[if_pos lt];rfl
     ·rw[if_neg lt];rfl
    ·rw[if_neg c]at m ⊢
     by_cases lt:ord f X<ord f Y
     ·rw[if_pos lt];rfl
     ·rw[if_neg lt,aP];rfl
def aJ:dK:=orc4 (pN .i64) (pN .i64) (pN .u64) (pN .u64) sp
theorem fnok:uB prog E 8 f8 aF:=aID sT mixed (mV _ rfl (aA Lq.ok (aA Gy.ok (aA Dc.ok (aA iA.ok (aA mY.ok (aA fC.ok aD)))))) (oR)) func8 rfl rfl rfl
theorem ok:lO prog base.glob 8 aJ:=fnok.aME rfl spec
end LawZRises
end W
namespace AI
open Go Go.RowKit Go.ChangeShapes Go.WideShapes Go.ChangeAt
abbrev noX:Nat->Prop:=fun _=>False
theorem aUM{w:World}{a:Addr}{v:Value}(h:w.cell? a=some v):a=⟨a.block,a.off,none⟩/\a.block<w.heap.size:=by
 unfold World.cell? at h;split at h
 ·rename_i c t fr hb;split at h
  ·cases h
  ·rename_i hs;obtain⟨b,o,s⟩:=a;cases s with
   |some x=>simp at hs
   |none=>exact⟨rfl,(Array.getElem?_eq_some_iff.1 hb).1⟩
 ·cases h
section
variable {H:Type} {enc:TypeId×Value->H} {P:Program} {w:World} {held:Bool} {sp:Nat->Bool}
theorem glob_ints{name:String}{g:Nat}{t e:TypeId}{k:IntKind}{n fuel:Nat}{ns:List Int}{cs:Array Value}{p:List MemPlace}(hg:P.globalNamed name=some g)(hv:w.var? P name=some cs)(ht:P.underlying t=some (.array n e))(he:P.underlying e=some (.int k))(hc:P.cellsOf e=1)(hn:ns.length=n)(Di:0<n)
  (hd:DataW.trod enc P w 0 sp held fuel t cs.toList=some (.agg (ns.map fun m=>.lit (.int k m)),p)):g<w.heap.size/\¬noX g/\uZ noX w g 0 (xM k ns):=by
 obtain⟨xs,m1,_,hx,_,aVW,bVY⟩:=DataW.trod_array ht hd;simp only[Prod.mk.injEq,DataW.agg.injEq]at hx;have cell:∀i v,ns[i]?=some v->w.cell? ⟨g,i,none⟩=some (.int k v):=by
  intro i v hi;have kD:i<n:=by have:=(List.getElem?_eq_some_iff.1 hi).1;omega
  have h1:=bVY i kD;have bOZ:xs[i]?=some xs[i]:=bZK (by omega);rw[bOZ,hc,Nat.mul_one]at h1;obtain⟨m,e1,e2,_⟩:=DataW.trod_int he h1;have h2:=congrArg (fun l=>l[i]?) hx.1;simp only[bYX,hi,bOZ,e2,Option.map_some]at h2;have bUS:v=m:=by simpa using h2
  subst bUS;have h3:((cs.toList.drop i).take 1)[0]?=some (.int k v):=by rw[e1];rfl
  rw[List.getElem?_take,aW,List.getElem?_drop]at h3;have h4:=World.var?_cell hg hv i;rw[h4];simpa using h3
 have h0:ns[0]?=some ns[0]:=bZK (by omega);have hb:=(aUM (cell 0 _ h0)).2;refine⟨hb,id,fun i s hs=>⟨hb,id,?_⟩⟩;unfold xM at hs;rw[bYX]at hs;obtain⟨v,bDY,rfl⟩:=Option.map_eq_some_iff.1 hs;refine⟨_,by rw[Nat.zero_add];exact cell i v bDY,rfl,rfl⟩
end
theorem wf64{n:Int}(h:(Lit.int .u64 n).wf=true):0<=n/\n<18446744073709551616:=by
 have h2:u64.min<=n/\n<=u64.max:=by simpa [Lit.wf] using h
 have e1:u64.min=0:=rfl;have e2:u64.max=18446744073709551615:=rfl;omega
theorem calls_true{P:Program}{G:Nat->Option (IntKind×List Int)}{f:FuncId}{ds:List D}(hc:Contract P G f ds [.s (.sc (.bool true))]){w:World}{vs:List Value}(hG:GlobOk G noX w)(hl:ds.length=vs.length)
  (hr:∀(i:Nat) (d:D) (v:Value),ds[i]?=some d->vs[i]?=some v->mI noX w d v):Calls P f vs.toArray w fun e w'=>e=.returned (.bool true)/\Below w.heap.size w w':=by
 refine(hc noX w vs (fun _ h=>h.elim) hG hl hr).mono ?_;rintro e w' ⟨tF,rfl,hb,g,hl,_,hr⟩
 match tF,hl with
 | [v],_ =>
  have:=hr 0 _ v rfl rfl;obtain⟨rfl,_⟩:=this;exact⟨rfl,hb⟩
end AI
end Go.Proofs.YtplagoepbghhpaaGreatDoor
end
