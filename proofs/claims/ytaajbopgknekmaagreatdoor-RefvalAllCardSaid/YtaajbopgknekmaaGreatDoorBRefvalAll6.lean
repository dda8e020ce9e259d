/- Contracts of functions and laws, for the claim on RefvalAll. -/
import Derived.Test.YtaajbopgknekmaaGreatDoorBShared5
set_option linter.unusedVariables false
set_option linter.unusedSimpArgs false
set_option exponentiation.threshold 10000000
noncomputable section
open Go.IntKind(i8 i16 i32 i64 u8 u16 u32 u64)
open Go.Proofs.Tryz
open Int renaming toNat->cLC,toNat_natCast->cBF
open Bool renaming not_true->bZH
namespace Go.Proofs.YtaajbopgknekmaaGreatDoor
open Go.Value(int bool slice)
open AI.S(sc ints)
namespace W
open Go AI M
namespace zZ
def E:=mE [(18,pU.aJ),(13,aI.aJ),(15,Dd.aJ),(27,qZ.aJ)] 58 [57] [] []
def aF:=bd f12
theorem aU:Nk E aF:=nk
theorem start a b c d:aG E f12 aF [D.agg [sc (int i64 a),sc (int i64 b),sc (int u64 c),sc (int i64 d)]]=letI B:=some [D.s (sc (bool true))];letI A:=aI.iJ b c d;aD (a==1) (aO (0<=c/\c<18446744073709551616) (aC (bQ.pP b c 8) fun e=>aO (0<=c/\c<18446744073709551616) (aC (bQ.pP b c 1) fun f=>aD (pU.Yz b c==qZ.aYR b c) (some [D.s (sc (bool (e==f)))]) (some [D.s (sc (bool false))])))) (aD (a==2) (aO (0<=c/\c<18446744073709551616) (aC (isNeg A.fst.fst) fun g=>aC (M6.dg A.fst.fst.natAbs) fun h=>aC A.fst.snd fun i=>aC (isNeg A.snd.fst) fun j=>aC (M6.dg A.snd.fst.natAbs) fun k=>aC A.snd.snd fun l=>letI C:=(g,h,i,j,k,l);aO ((0<=c/\c<18446744073709551616)/\dR C/\bQ.pP b c d=bQ.pP b c d/\dv (fL C)=A.fst/\dv (fO C)=A.snd) B)) B):=eJ aU
abbrev bXB:=Int×Int×Int×Int
def sp(o:bXB):Prop×List D:=(0<=o.2.2.1/\o.2.2.1<18446744073709551616,[.s (.sc (.bool true))])
theorem spec:iD E f12 aF (pG (.pair (sN .i64) (.pair (sN .i64) (.pair (sN .u64) (sN .i64))))) sp:=by
 intro o h;have h:0<=o.2.2.1/\o.2.2.1<18446744073709551616:=h;refine(start o.1 o.2.1 o.2.2.1 o.2.2.2).trans ?_
 by_cases c1:o.1=1
 ·rw[cL c1,gP h,aB,gP h,aB,aFK h,Rq,cL rfl];rw[show(bQ.pP o.2.1 o.2.2.1 1==bQ.pP o.2.1 o.2.2.1 1)=true from beq_self_eq_true _];rfl
 ·rw[cO c1]
  by_cases c2:o.1=2
  ·rw[cL c2,gP h,aB,aB,aB,aB,aB,aB];have q:=aI.yB (fn:=o.2.1) (p:=o.2.2.2) h;exact gP ⟨h,q,rfl,jU _ _,jV _ _⟩
  ·rw[cO c2];rfl
def aJ:dG:=orc1 (pG (.pair (sN .i64) (.pair (sN .i64) (.pair (sN .u64) (sN .i64))))) sp
theorem ok:OK 12 aJ:=(dZ E aF (aA pU.ok (aA aI.ok (aA Dd.ok (aA qZ.ok aE)))) func12).oS rfl spec
end zZ
namespace Uf
def E:=mE [(49,By.aJ)] 9 [] [] []
def aF:=bd f98
theorem aU:Nk E aF:=nk
theorem start a b c d e f:aG E f98 aF [D.agg [sc (bool a),ints u64 b,sc (int i64 c)],D.agg [sc (bool d),ints u64 e,sc (int i64 f)]]=aO (aW (a,b,c)/\aW (d,e,f)) (some [D.s (sc (bool (decide (0<dQ (dv (a,b,c)) (dv (d,e,f))))))]):=eJ aU
def sp(x y:iW):Prop×List D:=(aW x/\aW y,[.s (.sc (.bool (decide (0<dQ (dv x) (dv y)))))])
theorem spec:eR E f98 aF jE jE sp:=by
 intro x y h;exact(start x.1 x.2.1 x.2.2 y.1 y.2.1 y.2.2).trans (gP h)
def aJ:dG:=orc2 jE jE sp
theorem ok:OK 98 aJ:=(dZ E aF (aA By.ok aE) func98).jR rfl spec
end Uf
namespace jA
def E:=mE [(98,Uf.aJ)] 25 [] [(3,[1,4,5,12,13,14])] []
def aF:=bd f94
theorem aU:Nk E aF:=nk
def L3 a b c d e (f:Nat) (g:Nat->Bool) (h:Nat->List Int) (j:Nat->Int) k l:=nN E f94 aF 3 [vA (sc (Value.func (Fn.func 98) { toList:=[] } { toList:=[] })),bM 1 35 [bC a,sc (slice none 0 0),cV b],bM 2 35 [bC c,eF d,cV e],(A.v (V.one (L.rows 3 f fun i=>[sc (bool (g i)),ints u64 (h i),sc (int i64 (j i))])),none),bK k,bK l]
theorem start(a:iW)(b:iW):aG E f94 aF [D.rows 3 2 fun i=>[sc (bool (t2 a b i).fst),ints u64 (t2 a b i).snd.fst,sc (int i64 (t2 a b i).snd.snd)],D.s (sc (Value.func (Fn.func (98:FuncId)) #[] #[]))]=letI A:=t2 a b (cLC 0);jA.L3 false 0 A.fst A.snd.fst A.snd.snd 1 (fun i=>(t2 a b (cLC 1+i)).fst) (fun i=>(t2 a b (cLC 1+i)).snd.fst) (fun i=>(t2 a b (cLC 1+i)).snd.snd) 1 0:=eJ aU
theorem tK a b c d e f g h j k l:L3 a b c d e f g h j k l=letI A:=(g l.toNat,h l.toNat,j l.toNat);aD (decide (l<k)) (if 0<=l/\l<(f:Int)then aO (aW A/\aW (c,d,e)) (aD (decide (0<dQ (dv A) (dv (c,d,e)))) (jA.L3 a b (g l.toNat) (h l.toNat) (j l.toNat) f (fun i=>g i) (fun i=>h i) (fun i=>j i) k (i64.wrap (l+1))) (jA.L3 a b c d e f (fun i=>g i) (fun i=>h i) (fun i=>j i) k (i64.wrap (l+1))))else none) (some [D.agg [sc (bool c),ints u64 d,sc (int i64 e)]]):=lJ aU
def mT(f:Nat->iW):Nat->iW
 |0=>f 0
 |k+1=>bif decide (0<dQ (dv (f (k+1))) (dv (mT f k)))then f (k+1)else mT f k
def Hb(a:iW×iW):iW:=mT (t2 a.1 a.2) 1
def sp(a:iW×iW)(u:Unit):Prop×List D:=(aW a.1/\aW a.2,[.agg [.sc (.bool (Hb a).1),.ints .u64 (Hb a).2.1,.sc (.int .i64 (Hb a).2.2)]])
theorem zQ{f:Nat->iW}{n:Nat}(hf:∀i,i<n->aW (f i)):∀k,k<n->aW (mT f k)
 |0,h=>hf 0 h
 |k+1,h=>by
  unfold mT;cases decide (0<dQ (dv (f (k+1))) (dv (mT f k)))
  ·exact zQ hf k (by omega)
  ·exact hf (k+1) h
theorem L(b0:Bool)(x1:Int)(n:Nat)(f:Nat->iW)(hn:n<1000)(hf:∀i,i<n+1->aW (f i)):∀d k:Nat,k+d=n->L3 b0 x1 (mT f k).1 (mT f k).2.1 (mT f k).2.2 n (fun i=>(f (1+i)).1) (fun i=>(f (1+i)).2.1) (fun i=>(f (1+i)).2.2) (n:Int) (k:Int)=some [.agg [.sc (.bool (mT f n).1),.ints .u64 (mT f n).2.1,.sc (.int .i64 (mT f n).2.2)]]
 |0,k,h=>by
  obtain rfl:k=n:=by omega
  rw[tK,aN]
 |d+1,k,h=>by
  have e:i64.wrap ((k:Int)+1)=((k+1:Nat):Int):=by rw[wrap_i64];omega
  have r:=L b0 x1 n f hn hf d (k+1) (by omega);have g1:aW (f (1+k)):=hf _ (by omega);have g2:aW (mT f k):=zQ hf k (by omega);have c1:f (k+1)=f (1+k):=by rw[Nat.add_comm]
  rw[tK,aR,aT,cBF,gP ⟨g1,g2⟩,e]
  by_cases hc:0<dQ (dv (f (k+1))) (dv (mT f k))
  ·have hb:mT f (k+1)=f (1+k):=by
    rw[<-c1];show(bif decide (0<dQ (dv (f (k+1))) (dv (mT f k)))then f (k+1)else mT f k)=_;rw[decide_eq_true hc];rfl
   rw[c1]at hc;rw[aR hc];rw[hb]at r;exact r
  ·have hb:mT f (k+1)=mT f k:=by
    show(bif decide (0<dQ (dv (f (k+1))) (dv (mT f k)))then f (k+1)else mT f k)=_;rw[decide_eq_false hc];rfl
   rw[c1]at hc;rw[aN hc];rw[hb]at r;exact r
theorem all{a:iW×iW}(h:aW a.1/\aW a.2):∀i,i<2->aW (t2 a.1 a.2 i):=fun i hi=>by
  obtain rfl |rfl:i=0\/i=1:=by omega
  ·exact h.1
  ·exact h.2
theorem Nu{a:iW×iW}(h:aW a.1/\aW a.2):aW (Hb a):=zQ (n:=2) (all h) 1 (by decide)
theorem Nv(a:iW×iW):dv (Hb a)=aDX (dv a.1) (dv a.2):=by
 show dv (bif decide (0<dQ (dv a.2) (dv a.1))then a.2 else a.1)=bif decide (0<dQ (dv a.2) (dv a.1))then dv a.2 else dv a.1
 cases decide (0<dQ (dv a.2) (dv a.1)) <;> rfl
theorem spec:eR E f94 aF (aHI (.pair sB (.pair (sI .u64) (sN .i64))) (false,[],0)) (pFn 98) sp:=fun a u h =>
 (start a.1 a.2).trans (L false 0 1 (t2 a.1 a.2) (by decide) (all h) 1 0 (by decide))
def aJ:dG:=orc2 (aHI (.pair sB (.pair (sI .u64) (sN .i64))) (false,[],0)) (pFn 98) sp
theorem ok:OK 94 aJ:=(dZ E aF (aA Uf.ok aE) func94).jR rfl spec
end jA
namespace Oq
def E:=mE [(94,jA.aJ)] 5 [] [] []
def aF:=bd f60
theorem aU:Nk E aF:=nk
theorem start(a:iW)(b:iW):aG E f60 aF [D.rows 3 2 fun i=>[sc (bool (t2 a b i).fst),ints u64 (t2 a b i).snd.fst,sc (int i64 (t2 a b i).snd.snd)]]=letI C:=t2 a b 1;letI B:=t2 a b 0;letI F:=(B.fst,B.snd.fst,B.snd.snd);letI A:=jA.Hb (F,C.fst,C.snd.fst,C.snd.snd);aO (aW F/\aW (C.fst,C.snd.fst,C.snd.snd)) (some [D.agg [sc (bool A.fst),ints u64 A.snd.fst,sc (int i64 A.snd.snd)]]):=eJ aU
def sp(a:iW×iW):Prop×List D:=(aW a.1/\aW a.2,[.agg [.sc (.bool (jA.Hb a).1),.ints .u64 (jA.Hb a).2.1,.sc (.int .i64 (jA.Hb a).2.2)]])
theorem spec:iD E f60 aF (aHI (.pair sB (.pair (sI .u64) (sN .i64))) (false,[],0)) sp:=fun a h =>
 (start a.1 a.2).trans (gP h)
def aJ:dG:=orc1 (aHI (.pair sB (.pair (sI .u64) (sN .i64))) (false,[],0)) sp
theorem ok:OK 60 aJ:=(dZ E aF (aA jA.ok aE) func60).oS rfl spec
end Oq
namespace Ue
def E:=mE [(49,By.aJ)] 9 [] [] []
def aF:=bd f95
theorem aU:Nk E aF:=nk
theorem start a b c d e f:aG E f95 aF [D.agg [sc (bool a),ints u64 b,sc (int i64 c)],D.agg [sc (bool d),ints u64 e,sc (int i64 f)]]=aO (aW (a,b,c)/\aW (d,e,f)) (some [D.s (sc (bool (decide (dQ (dv (a,b,c)) (dv (d,e,f))<0))))]):=eJ aU
def sp(x y:iW):Prop×List D:=(aW x/\aW y,[.s (.sc (.bool (decide (dQ (dv x) (dv y)<0))))])
theorem spec:eR E f95 aF jE jE sp:=by
 intro x y h;exact(start x.1 x.2.1 x.2.2 y.1 y.2.1 y.2.2).trans (gP h)
def aJ:dG:=orc2 jE jE sp
theorem ok:OK 95 aJ:=(dZ E aF (aA By.ok aE) func95).jR rfl spec
end Ue
namespace jK
def E:=mE [(95,Ue.aJ)] 25 [] [(3,[1,4,5,12,13,14])] []
def aF:=bd f94
theorem aU:Nk E aF:=nk
def L3 a b c d e (f:Nat) (g:Nat->Bool) (h:Nat->List Int) (j:Nat->Int) k l:=nN E f94 aF 3 [vA (sc (Value.func (Fn.func 95) { toList:=[] } { toList:=[] })),bM 1 35 [bC a,sc (slice none 0 0),cV b],bM 2 35 [bC c,eF d,cV e],(A.v (V.one (L.rows 3 f fun i=>[sc (bool (g i)),ints u64 (h i),sc (int i64 (j i))])),none),bK k,bK l]
theorem start(a:iW)(b:iW):aG E f94 aF [D.rows 3 2 fun i=>[sc (bool (t2 a b i).fst),ints u64 (t2 a b i).snd.fst,sc (int i64 (t2 a b i).snd.snd)],D.s (sc (Value.func (Fn.func (95:FuncId)) #[] #[]))]=letI A:=t2 a b (cLC 0);jK.L3 false 0 A.fst A.snd.fst A.snd.snd 1 (fun i=>(t2 a b (cLC 1+i)).fst) (fun i=>(t2 a b (cLC 1+i)).snd.fst) (fun i=>(t2 a b (cLC 1+i)).snd.snd) 1 0:=eJ aU
theorem tK a b c d e f g h j k l:L3 a b c d e f g h j k l=letI A:=(g l.toNat,h l.toNat,j l.toNat);aD (decide (l<k)) (if 0<=l/\l<(f:Int)then aO (aW A/\aW (c,d,e)) (aD (decide (dQ (dv A) (dv (c,d,e))<0)) (jK.L3 a b (g l.toNat) (h l.toNat) (j l.toNat) f (fun i=>g i) (fun i=>h i) (fun i=>j i) k (i64.wrap (l+1))) (jK.L3 a b c d e f (fun i=>g i) (fun i=>h i) (fun i=>j i) k (i64.wrap (l+1))))else none) (some [D.agg [sc (bool c),ints u64 d,sc (int i64 e)]]):=lJ aU
def mT(f:Nat->iW):Nat->iW
 |0=>f 0
 |k+1=>bif decide (dQ (dv (f (k+1))) (dv (mT f k))<0)then f (k+1)else mT f k
def Hb(a:iW×iW):iW:=mT (t2 a.1 a.2) 1
def sp(a:iW×iW)(u:Unit):Prop×List D:=(aW a.1/\aW a.2,[.agg [.sc (.bool (Hb a).1),.ints .u64 (Hb a).2.1,.sc (.int .i64 (Hb a).2.2)]])
theorem zQ{f:Nat->iW}{n:Nat}(hf:∀i,i<n->aW (f i)):∀k,k<n->aW (mT f k)
 |0,h=>hf 0 h
 |k+1,h=>by
  unfold mT;cases decide (dQ (dv (f (k+1))) (dv (mT f k))<0)
  ·exact zQ hf k (by omega)
  ·exact hf (k+1) h
theorem L(b0:Bool)(x1:Int)(n:Nat)(f:Nat->iW)(hn:n<1000)(hf:∀i,i<n+1->aW (f i)):∀d k:Nat,k+d=n->L3 b0 x1 (mT f k).1 (mT f k).2.1 (mT f k).2.2 n (fun i=>(f (1+i)).1) (fun i=>(f (1+i)).2.1) (fun i=>(f (1+i)).2.2) (n:Int) (k:Int)=some [.agg [.sc (.bool (mT f n).1),.ints .u64 (mT f n).2.1,.sc (.int .i64 (mT f n).2.2)]]
 |0,k,h=>by
  obtain rfl:k=n:=by omega
  rw[tK,aN]
 |d+1,k,h=>by
  have e:i64.wrap ((k:Int)+1)=((k+1:Nat):Int):=by rw[wrap_i64];omega
  have r:=L b0 x1 n f hn hf d (k+1) (by omega);have g1:aW (f (1+k)):=hf _ (by omega);have g2:aW (mT f k):=zQ hf k (by omega);have c1:f (k+1)=f (1+k):=by rw[Nat.add_comm]
  rw[tK,aR,aT,cBF,gP ⟨g1,g2⟩,e]
  by_cases hc:dQ (dv (f (k+1))) (dv (mT f k))<0
  ·have hb:mT f (k+1)=f (1+k):=by
    rw[<-c1];show(bif decide (dQ (dv (f (k+1))) (dv (mT f k))<0)then f (k+1)else mT f k)=_;rw[decide_eq_true hc];rfl
   rw[c1]at hc;rw[aR hc];rw[hb]at r;exact r
  ·have hb:mT f (k+1)=mT f k:=by
    show(bif decide (dQ (dv (f (k+1))) (dv (mT f k))<0)then f (k+1)else mT f k)=_;rw[decide_eq_false hc];rfl
   rw[c1]at hc;rw[aN hc];rw[hb]at r;exact r
theorem all{a:iW×iW}(h:aW a.1/\aW a.2):∀i,i<2->aW (t2 a.1 a.2 i):=fun i hi=>by
  obtain rfl |rfl:i=0\/i=1:=by omega
  ·exact h.1
  ·exact h.2
theorem Nu{a:iW×iW}(h:aW a.1/\aW a.2):aW (Hb a):=zQ (n:=2) (all h) 1 (by decide)
theorem Nv(a:iW×iW):dv (Hb a)=aHJ (dv a.1) (dv a.2):=by
 show dv (bif decide (dQ (dv a.2) (dv a.1)<0)then a.2 else a.1)=bif decide (dQ (dv a.2) (dv a.1)<0)then dv a.2 else dv a.1
 cases decide (dQ (dv a.2) (dv a.1)<0) <;> rfl
theorem spec:eR E f94 aF (aHI (.pair sB (.pair (sI .u64) (sN .i64))) (false,[],0)) (pFn 95) sp:=fun a u h =>
 (start a.1 a.2).trans (L false 0 1 (t2 a.1 a.2) (by decide) (all h) 1 0 (by decide))
def aJ:dG:=orc2 (aHI (.pair sB (.pair (sI .u64) (sN .i64))) (false,[],0)) (pFn 95) sp
theorem ok:OK 94 aJ:=(dZ E aF (aA Ue.ok aE) func94).jR rfl spec
end jK
namespace Oo
def E:=mE [(94,jK.aJ)] 5 [] [] []
def aF:=bd f58
theorem aU:Nk E aF:=nk
theorem start(a:iW)(b:iW):aG E f58 aF [D.rows 3 2 fun i=>[sc (bool (t2 a b i).fst),ints u64 (t2 a b i).snd.fst,sc (int i64 (t2 a b i).snd.snd)]]=letI C:=t2 a b 1;letI B:=t2 a b 0;letI F:=(B.fst,B.snd.fst,B.snd.snd);letI A:=jK.Hb (F,C.fst,C.snd.fst,C.snd.snd);aO (aW F/\aW (C.fst,C.snd.fst,C.snd.snd)) (some [D.agg [sc (bool A.fst),ints u64 A.snd.fst,sc (int i64 A.snd.snd)]]):=eJ aU
def sp(a:iW×iW):Prop×List D:=(aW a.1/\aW a.2,[.agg [.sc (.bool (jK.Hb a).1),.ints .u64 (jK.Hb a).2.1,.sc (.int .i64 (jK.Hb a).2.2)]])
theorem spec:iD E f58 aF (aHI (.pair sB (.pair (sI .u64) (sN .i64))) (false,[],0)) sp:=fun a h =>
 (start a.1 a.2).trans (gP h)
def aJ:dG:=orc1 (aHI (.pair sB (.pair (sI .u64) (sN .i64))) (false,[],0)) sp
theorem ok:OK 58 aJ:=(dZ E aF (aA jK.ok aE) func58).oS rfl spec
end Oo
namespace qV
def E:=mE [(46,tI.aJ),(60,Oq.aJ),(58,Oo.aJ),(49,By.aJ),(89,Ol.aJ)] 39 [] [(3,[2,3,4])] [3]
def aF:=bd f52
theorem aU:Nk E aF:=nk
def J3 a b c d e f g h i j k l m n o p:=lE E f52 aF 3 [bM 0 37 [bC a,eF b,cV c,bC d,eF e,cV f],bM 1 37 [bC g,eF h,cV i,bC j,eF k,cV l],bM 2 37 [bC m,sc (slice none 0 0),cV n,bC o,sc (slice none 0 0),cV p]]
theorem start a b c d e f g h i j k l:aG E f52 aF [D.agg [sc (bool a),ints u64 b,sc (int i64 c),sc (bool d),ints u64 e,sc (int i64 f)],D.agg [sc (bool g),ints u64 h,sc (int i64 i),sc (bool j),ints u64 k,sc (int i64 l)]]=aO (dR (a,b,c,d,e,f)) (aO (dR (g,h,i,j,k,l)) (qV.J3 a b c d e f g h i j k l false 0 false 0)):=eJ aU
theorem fB a b c d e f g h i j k l m n o p:J3 a b c d e f g h i j k l m n o p=letI F:=bool false;letI C:=int i64 0;letI B:=jK.Hb ((d,e,f),j,k,l);letI A:=jA.Hb ((a,b,c),g,h,i);aO (aW (a,b,c)/\aW (g,h,i)) (aC A.fst fun q=>aC A.snd.fst fun r=>aC A.snd.snd fun s=>aO (aW (d,e,f)/\aW (j,k,l)) (aC B.fst fun t=>aC B.snd.fst fun u=>aC B.snd.snd fun v=>aO (aW (q,r,s)/\aW (t,u,v)) (aC (dQ (dv (q,r,s)) (dv (t,u,v))) fun w=>aD (decide (0<w)) (some [D.agg [sc F,sc (slice none 0 0),sc C,sc F,sc (slice none 0 0),sc C],D.s (sc F),D.s (sc C)]) (aO (r.length<=1099511627776/\u.length<=1099511627776) (some [D.agg [sc (bool q),ints u64 r,sc (int i64 s),sc (bool t),ints u64 u,sc (int i64 v)],D.s (sc (bool true)),D.s (sc C)]))))):=cJ aU
def meet(s t:vF):Bool:=!decide (0<dQ (aDX (dv (fL s)) (dv (fL t))) (aHJ (dv (fO s)) (dv (fO t))))
def aOO(s t:vF):iW:=jA.Hb (fL s,fL t)
def aOP(s t:vF):iW:=jK.Hb (fO s,fO t)
def sp(s t:vF):Prop×List D:=(dR s/\dR t,[.agg [.sc (.bool (bif meet s t then(aOO s t).1 else false)),.ints .u64 (bif meet s t then(aOO s t).2.1 else []),.sc (.int .i64 (bif meet s t then(aOO s t).2.2 else 0)),.sc (.bool (bif meet s t then(aOP s t).1 else false)),.ints .u64 (bif meet s t then(aOP s t).2.1 else []),.sc (.int .i64 (bif meet s t then(aOP s t).2.2 else 0))],.s (.sc (.bool (meet s t))),.s (.sc (.int .i64 0))])
theorem spec:Ok E f52 aF tN tN sp:=by
 rintro s t ⟨h1,h2⟩;have e:=start s.1 s.2.1 s.2.2.1 s.2.2.2.1 s.2.2.2.2.1 s.2.2.2.2.2 t.1 t.2.1 t.2.2.1 t.2.2.2.1 t.2.2.2.2.1 t.2.2.2.2.2;have g1:aW (aOO s t):=jA.Nu ⟨h1.1,h2.1⟩;have g2:aW (aOP s t):=jK.Nu ⟨h1.2.1,h2.2.1⟩;have l1:=g1.len;have l2:=g2.len;have v1:dv (aOO s t)=aDX (dv (fL s)) (dv (fL t)):=jA.Nv (fL s,fL t);have v2:dv (aOP s t)=aHJ (dv (fO s)) (dv (fO t)):=jK.Nv (fO s,fO t);have x1:jA.Hb ((s.1,s.2.1,s.2.2.1),t.1,t.2.1,t.2.2.1)=aOO s t:=rfl;have x2:jK.Hb ((s.2.2.2.1,s.2.2.2.2.1,s.2.2.2.2.2),t.2.2.2.1,t.2.2.2.2.1,t.2.2.2.2.2)=aOP s t:=rfl;have y1:((aOO s t).1,(aOO s t).2.1,(aOO s t).2.2)=aOO s t:=rfl;have y2:((aOP s t).1,(aOP s t).2.1,(aOP s t).2.2)=aOP s t:=rfl;rw[gP h1,gP h2,fB,gP ⟨h1.1,h2.1⟩]at e;simp only[aB,x1,x2,y1,y2,v1,v2]at e;rw[gP ⟨h1.2.1,h2.2.1⟩,gP ⟨g1,g2⟩]at e;unfold sp
 by_cases c:0<dQ (aDX (dv (fL s)) (dv (fL t))) (aHJ (dv (fO s)) (dv (fO t)))
 ·have hm:meet s t=false:=by unfold meet;rw[decide_eq_true c];rfl
  rw[aR c]at e;refine⟨_,e,?_⟩;dsimp only;rw[hm];exact .cons (De.agg (.cons (Ew.refl _) (.cons (Ew.nil _) (.cons (Ew.refl _) (.cons (Ew.refl _) (.cons (Ew.nil _) (Ae.refl _))))))) (iV.refl _)
 ·have hm:meet s t=true:=by unfold meet;rw[decide_eq_false c];rfl
  rw[aN c,gP ⟨by omega,by omega⟩]at e;refine⟨_,e,?_⟩;dsimp only;rw[hm];exact iV.refl _
def aJ:dG:=orc2 tN tN sp
theorem ok:OK 52 aJ:=(dZ E aF (aA tI.ok (aA Oq.ok (aA Oo.ok (aA By.ok (aA Ol.ok aE))))) func52).aHY rfl spec
end qV
end W
namespace M
open Go AI W
theorem Kr{s t:vF}{V:Rat}(h1:R.qz (dv (fL s))<=V/\V<=R.qz (dv (fO s)))(h2:R.qz (dv (fL t))<=V/\V<=R.qz (dv (fO t))):qV.meet s t=true:=by
 unfold qV.meet;rw[decide_eq_false,Bool.not_false];rw[uY];have a:R.qz (aDX (dv (fL s)) (dv (fL t)))<=V:=by rcases aLP (dv (fL s)) (dv (fL t))with h |h <;> rw[h] <;> grind
 have b:V<=R.qz (aHJ (dv (fO s)) (dv (fO t))):=by rcases aKJ (dv (fO s)) (dv (fO t))with h |h <;> rw[h] <;> grind
 grind
theorem nZ{fn b p:Int}(h:b%9223372036854775808<9218868437227405312/\1<=p/\p<=2000)(hf:1<=fn/\fn<=3):bQ.pP fn b p=0:=by
 rw[tP,bG,bG,bG,bG,if_pos h.1]
theorem aIB{fn b p:Int}(h:bQ.pP fn b p=0):bQ.pP fn b 8=0:=by
 rw[tP]at h ⊢;split at h
 ·omega
 ·rename_i c1;rw[if_neg c1];split at h
  ·omega
  ·rename_i c2;rw[if_neg c2,bG,bG];split at h
   ·omega
   ·split at h
    ·omega
    ·exact h
theorem aIS{fn b p:Int}(hb:0<=b/\b<18446744073709551616)(c:bQ.pP fn b p=0):bY.jG (aI.iJ fn b p).2 (-(aI.iJ fn b p).1.1,(aI.iJ fn b p).1.2)=true/\vY.aHH (aI.iJ fn b p).1 (aI.iJ fn b p).2 p=true:=by
 have pt:∀a:Int×Int,vY.aHH a a p=true:=by
  intro a;unfold vY.aHH;rw[beq_iff_eq.2 (Da.2 rfl)];rfl
 by_cases hz:b%9223372036854775808=0
 ·rw[zI c hz]
  by_cases f:fn=2
  ·rw[if_pos f];exact⟨by decide +kernel,pt _⟩
  ·rw[if_neg f];exact⟨by decide +kernel,pt _⟩
 ·obtain⟨hr,hf,hp,z⟩:=uP hb c hz;rw[yC c z];have N:=Ep (p:=p) hr hf hp;exact⟨N.ok,N.thin⟩
end M
namespace W
open Go AI M
namespace Uu
def E:=mE [(33,aBA.aJ)] 28 [26] [] []
def aF:=bd f14
theorem aU:Nk E aF:=nk
theorem start a b c d e f:aG E f14 aF [D.agg [sc (bool a),ints u64 b,sc (int i64 c)],D.agg [sc (bool d),ints u64 e,sc (int i64 f)]]=letI A:=some [D.s (sc (bool false))];aD (c==f) (aD (a==d) (aO (b.length<=4398046511104/\e.length<=4398046511104) (some [D.s (sc (bool (decide (b=e))))])) A) A:=eJ aU
theorem aJM{x y:Bool×List Int×Int}(hx:aW x)(hy:aW y):dv x=dv y↔x=y:=by
 constructor
 ·intro h;have e:=congrArg M.dD h;rw[hx.dD,hy.dD]at e;obtain⟨b,a,e1⟩:=x;obtain⟨c,d,f⟩:=y;simp at e;obtain⟨h1,h2,h3⟩:=e;rw[h1,h2,h3]
 ·intro h;rw[h]
def sp(x y:iW):Prop×List D:=(aW x/\aW y,[.s (.sc (.bool (decide (dv x=dv y))))])
theorem spec:eR E f14 aF jE jE sp:=by
 rintro x y ⟨hx,hy⟩;refine(start x.1 x.2.1 x.2.2 y.1 y.2.1 y.2.2).trans ?_;have lx:=hx.len;have ly:=hy.len;have hs:=aJM hx hy;show _=some [D.s (.sc (.bool (decide (dv x=dv y))))];obtain⟨b,a,e⟩:=x;obtain⟨c,d,f⟩:=y
 try dsimp only at *
 by_cases h2:e=f
 ·rw[cL h2];subst h2
  by_cases h1:b=c
  ·subst h1;rw[Nz (by simp),gP]
   by_cases h3:a=d
   ·rw[decide_eq_true h3,decide_eq_true (hs.2 (by rw[h3]))]
   ·rw[decide_eq_false h3,decide_eq_false (fun h=>h3 (by have:=hs.1 h;simpa using this))]
  ·rw[Ii (by simpa using h1),decide_eq_false (fun h=>h1 (by have:=hs.1 h;simp at this;exact this.1))]
 ·rw[cO h2,decide_eq_false (fun h=>h2 (by have:=hs.1 h;simp at this;exact this.2.2))]
def aJ:dG:=orc2 jE jE sp
theorem ok:OK 14 aJ:=(dZ E aF (aA aBA.ok aE) func14).jR rfl spec
end Uu
namespace LawAll16
def E:=mE [(11,nY.aJ),(12,zZ.aJ),(13,aI.aJ),(14,Uu.aJ)] 82 [] [(10,[28,29,30]),(4,[0,13,14,15])] []
def aF:=bd f5
theorem aU:Nk E aF:=nk
def L4(a:Nat)(b:Nat->Int)(c:Nat->Int)(d:Nat->Int)(e:Nat->Int)(f:Nat)(g:Nat->Int)(h:Nat->Int)(j:Nat->Int)(k:Nat->Int) l m:=nN E f5 aF 4 [(A.v (V.one (L.rows 4 a fun i=>[sc (int i64 (b i)),sc (int i64 (c i)),sc (int u64 (d i)),sc (int i64 (e i))])),none),(A.v (V.one (L.rows 4 f fun i=>[sc (int i64 (g i)),sc (int i64 (h i)),sc (int u64 (j i)),sc (int i64 (k i))])),none),bK l,bK m]
def Dl(a:Nat)(b:Nat->Int)(c:Nat->Int)(d:Nat->Int)(e:Nat->Int) f g:=nN E f5 aF 10 [(A.v (V.one (L.rows 4 a fun i=>[sc (int i64 (b i)),sc (int i64 (c i)),sc (int u64 (d i)),sc (int i64 (e i))])),none),bK f,bK g]
theorem start n (f:Nat->Int×Int×Int×Int):aG E f5 aF [D.rows 4 n fun i=>[sc (int i64 (f i).fst),sc (int i64 (f i).snd.fst),sc (int u64 (f i).snd.snd.fst),sc (int i64 (f i).snd.snd.snd)]]=aO True (LawAll16.L4 n (fun i=>(f i).fst) (fun i=>(f i).snd.fst) (fun i=>(f i).snd.snd.fst) (fun i=>(f i).snd.snd.snd) n (fun i=>(f i).fst) (fun i=>(f i).snd.fst) (fun i=>(f i).snd.snd.fst) (fun i=>(f i).snd.snd.snd) (n:Int) 0):=eJ aU
theorem kV a b c d e f g h j k l m:L4 a b c d e f g h j k l m=aD (decide (m<l)) (if 0<=m/\m<(f:Int)then aD (decide (k m.toNat<=2000)) (aO (0<=j m.toNat/\j m.toNat<18446744073709551616) (LawAll16.L4 a (fun i=>b i) (fun i=>c i) (fun i=>d i) (fun i=>e i) f (fun i=>g i) (fun i=>h i) (fun i=>j i) (fun i=>k i) l (i64.wrap (m+1)))) (LawAll16.L4 a (fun i=>b i) (fun i=>c i) (fun i=>d i) (fun i=>e i) f (fun i=>g i) (fun i=>h i) (fun i=>j i) (fun i=>k i) l (i64.wrap (m+1)))else none) (LawAll16.Dl a (fun i=>b i) (fun i=>c i) (fun i=>d i) (fun i=>e i) (a:Int) 0):=lJ aU
theorem qB a b c d e f g:Dl a b c d e f g=letI C:=bQ.pP (c g.toNat) (d g.toNat) (e g.toNat);letI B:=some [D.s (sc (bool false))];letI A:=aI.iJ (c g.toNat) (d g.toNat) (e g.toNat);letI G:=M6.dg A.snd.fst.natAbs;letI F:=M6.dg A.fst.fst.natAbs;aD (decide (g<f)) (if 0<=g/\g<(a:Int)then aD (decide (2000<e g.toNat)) (LawAll16.Dl a (fun i=>b i) (fun i=>c i) (fun i=>d i) (fun i=>e i) f (i64.wrap (g+1))) (aO (0<=d g.toNat/\d g.toNat<18446744073709551616) (aC (isNeg A.fst.fst) fun h=>aC F fun j=>aC A.fst.snd fun k=>aC (isNeg A.snd.fst) fun l=>aC G fun m=>aC A.snd.snd fun n=>aC C fun o=>aO (0<=d g.toNat/\d g.toNat<18446744073709551616) (aC (isNeg A.fst.fst) fun p=>aC F fun q=>aC A.fst.snd fun r=>aC (isNeg A.snd.fst) fun s=>aC G fun t=>aC A.snd.snd fun u=>aC C fun v=>aD (o !=v) B (aO (aW (h,j,k)/\aW (p,q,r)) (aC (decide (dv (h,j,k)=dv (p,q,r))) fun w=>aD (!w) B (aO (aW (l,m,n)/\aW (s,t,u)) (aC (decide (dv (l,m,n)=dv (s,t,u))) fun x=>aD (!x) B (aO (0<=d g.toNat/\d g.toNat<18446744073709551616) (LawAll16.Dl a (fun i=>b i) (fun i=>c i) (fun i=>d i) (fun i=>e i) f (i64.wrap (g+1)))))))))))else none) (some [D.s (sc (bool true))]):=lJ aU
theorem two{n:Nat}{f1 f2 f3 f4:Nat->Int}(hl:n<=9223372036854775807)(hf:∀i,i<n->0<=f3 i/\f3 i<18446744073709551616):∀(d i:Nat),i+d=n->Dl n f1 f2 f3 f4 (n:Int) (i:Int)=some [D.s (.sc (.bool true))]:=by
 intro d
 induction d with
 |zero=>intro i hd;rw[qB,aN]
 |succ d ih =>
  intro i hd;have g:=hf i (by omega);have s:=aI.yB (fn:=f2 i) (p:=f4 i) g;have k:=ih (i+1) (by omega);have w:i64.wrap ((i:Int)+1)=((i+1:Nat):Int):=by rw[wrap_i64];omega
  have h1:aW (isNeg (aI.iJ (f2 i) (f3 i) (f4 i)).1.1,M6.dg (aI.iJ (f2 i) (f3 i) (f4 i)).1.1.natAbs,(aI.iJ (f2 i) (f3 i) (f4 i)).1.2):=s.1;have h2:aW (isNeg (aI.iJ (f2 i) (f3 i) (f4 i)).2.1,M6.dg (aI.iJ (f2 i) (f3 i) (f4 i)).2.1.natAbs,(aI.iJ (f2 i) (f3 i) (f4 i)).2.2):=s.2.1;rw[qB,aR,aT,cBF,w]
  by_cases c:2000<f4 i
  ·rw[aR c];exact k
  ·rw[aN c,gP g,aB,aB,aB,aB,aB,aB,aB,gP g,aB,aB,aB,aB,aB,aB,aB,gG rfl,gP ⟨h1,h1⟩,aB,decide_eq_true rfl,bZH,bF,gP ⟨h2,h2⟩,aB,decide_eq_true rfl,bZH,bF,gP g];exact k
theorem one{n:Nat}{f1 f2 f3 f4:Nat->Int}(hl:n<=9223372036854775807)(hf:∀i,i<n->0<=f3 i/\f3 i<18446744073709551616):∀(d i:Nat),i+d=n->L4 n f1 f2 f3 f4 n f1 f2 f3 f4 (n:Int) (i:Int)=some [D.s (.sc (.bool true))]:=by
 intro d
 induction d with
 |zero =>
  intro i hd;rw[kV,aN];exact two hl hf n 0 (by omega)
 |succ d ih =>
  intro i hd;have g:=hf i (by omega);have k:=ih (i+1) (by omega);have w:i64.wrap ((i:Int)+1)=((i+1:Nat):Int):=by rw[wrap_i64];omega
  rw[kV,aR,aT,cBF,w]
  by_cases c:f4 i<=2000
  ·rw[aR c,gP g];exact k
  ·rw[aN c];exact k
theorem law(n:Nat)(f:Nat->Int×Int×Int×Int)(hl:n<=9223372036854775807)(hf:∀i,i<n->0<=(f i).2.2.1/\(f i).2.2.1<18446744073709551616):aG E f5 aF [D.rows 4 n (fun i=>[.sc (.int .i64 (f i).1),.sc (.int .i64 (f i).2.1),.sc (.int .u64 (f i).2.2.1),.sc (.int .i64 (f i).2.2.2)])]=some [.s (.sc (.bool true))] :=
 (start n f).trans ((gP trivial).trans (one hl hf n 0 (by omega)))
theorem fnok:qG prog E 5 f5 aF:=Hy oA mixed (iH _ rfl (aA nY.ok (aA zZ.ok (aA aI.ok (aA Uu.ok aE)))) (lA)) func5 rfl rfl rfl
theorem ok:True:=trivial
end LawAll16
end W
end Go.Proofs.YtaajbopgknekmaaGreatDoor
end
