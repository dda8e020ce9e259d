/- Contracts of functions and laws, for the claim on RefvalMirrors. -/
import Derived.Test.YtaajbopgknekmaaGreatDoorBShared5
set_option linter.unusedVariables false
set_option linter.unusedSimpArgs false
set_option exponentiation.threshold 10000000
noncomputable section
open Go.IntKind(i8 i16 i32 i64 u8 u16 u32 u64)
open Go.Proofs.Tryz
open Int renaming toNat->cLC,toNat_natCast->cBF
open Nat renaming testBit_lt_two_pow->cJV,lt_of_lt_of_le->bYH
open Bool renaming not_false->cJB
namespace Go.Proofs.YtaajbopgknekmaaGreatDoor
open Go.Value(int bool slice)
open AI.S(sc ints)
namespace W
open Go AI M
namespace Uf
def E:=mE [(49,By.aJ)] 9 [] [] []
def aF:=bd f98
theorem aU:Nk E aF:=nk
theorem start a b c d e f:aG E f98 aF [D.agg [sc (bool a),ints u64 b,sc (int i64 c)],D.agg [sc (bool d),ints u64 e,sc (int i64 f)]]=aO (aW (a,b,c)/\aW (d,e,f)) (some [D.s (sc (bool (decide (0<dQ (dv (a,b,c)) (dv (d,e,f))))))]):=eJ aU
def sp(x y:iW):Prop×List D:=(aW x/\aW y,[.s (.sc (.bool (decide (0<dQ (dv x) (dv y)))))])
theorem spec:eR E f98 aF jE jE sp:=by
 intro x y h;exact(start x.1 x.2.1 x.2.2 y.1 y.2.1 y.2.2).trans (gP h)
def aJ:dG:=orc2 jE jE sp
theorem ok:OK 98 aJ:=(dZ E aF (aA By.ok aE) func98).jR rfl spec
end Uf
namespace jA
def E:=mE [(98,Uf.aJ)] 25 [] [(3,[1,4,5,12,13,14])] []
def aF:=bd f94
theorem aU:Nk E aF:=nk
def L3 a b c d e (f:Nat) (g:Nat->Bool) (h:Nat->List Int) (j:Nat->Int) k l:=nN E f94 aF 3 [vA (sc (Value.func (Fn.func 98) { toList:=[] } { toList:=[] })),bM 1 35 [bC a,sc (slice none 0 0),cV b],bM 2 35 [bC c,eF d,cV e],(A.v (V.one (L.rows 3 f fun i=>[sc (bool (g i)),ints u64 (h i),sc (int i64 (j i))])),none),bK k,bK l]
theorem start(a:iW)(b:iW):aG E f94 aF [D.rows 3 2 fun i=>[sc (bool (t2 a b i).fst),ints u64 (t2 a b i).snd.fst,sc (int i64 (t2 a b i).snd.snd)],D.s (sc (Value.func (Fn.func (98:FuncId)) #[] #[]))]=letI A:=t2 a b (cLC 0);jA.L3 false 0 A.fst A.snd.fst A.snd.snd 1 (fun i=>(t2 a b (cLC 1+i)).fst) (fun i=>(t2 a b (cLC 1+i)).snd.fst) (fun i=>(t2 a b (cLC 1+i)).snd.snd) 1 0:=eJ aU
theorem tK a b c d e f g h j k l:L3 a b c d e f g h j k l=letI A:=(g l.toNat,h l.toNat,j l.toNat);aD (decide (l<k)) (if 0<=l/\l<(f:Int)then aO (aW A/\aW (c,d,e)) (aD (decide (0<dQ (dv A) (dv (c,d,e)))) (jA.L3 a b (g l.toNat) (h l.toNat) (j l.toNat) f (fun i=>g i) (fun i=>h i) (fun i=>j i) k (i64.wrap (l+1))) (jA.L3 a b c d e f (fun i=>g i) (fun i=>h i) (fun i=>j i) k (i64.wrap (l+1))))else none) (some [D.agg [sc (bool c),ints u64 d,sc (int i64 e)]]):=lJ aU
def mT(f:Nat->iW):Nat->iW
 |0=>f 0
 |k+1=>bif decide (0<dQ (dv (f (k+1))) (dv (mT f k)))then f (k+1)else mT f k
def Hb(a:iW×iW):iW:=mT (t2 a.1 a.2) 1
def sp(a:iW×iW)(u:Unit):Prop×List D:=(aW a.1/\aW a.2,[.agg [.sc (.bool (Hb a).1),.ints .u64 (Hb a).2.1,.sc (.int .i64 (Hb a).2.2)]])
theorem zQ{f:Nat->iW}{n:Nat}(hf:∀i,i<n->aW (f i)):∀k,k<n->aW (mT f k)
 |0,h=>hf 0 h
 |k+1,h=>by
  unfold mT;cases decide (0<dQ (dv (f (k+1))) (dv (mT f k)))
  ·exact zQ hf k (by omega)
  ·exact hf (k+1) h
theorem L(b0:Bool)(x1:Int)(n:Nat)(f:Nat->iW)(hn:n<1000)(hf:∀i,i<n+1->aW (f i)):∀d k:Nat,k+d=n->L3 b0 x1 (mT f k).1 (mT f k).2.1 (mT f k).2.2 n (fun i=>(f (1+i)).1) (fun i=>(f (1+i)).2.1) (fun i=>(f (1+i)).2.2) (n:Int) (k:Int)=some [.agg [.sc (.bool (mT f n).1),.ints .u64 (mT f n).2.1,.sc (.int .i64 (mT f n).2.2)]]
 |0,k,h=>by
  obtain rfl:k=n:=by omega
  rw[tK,aN]
 |d+1,k,h=>by
  have e:i64.wrap ((k:Int)+1)=((k+1:Nat):Int):=by rw[wrap_i64];omega
  have r:=L b0 x1 n f hn hf d (k+1) (by omega);have g1:aW (f (1+k)):=hf _ (by omega);have g2:aW (mT f k):=zQ hf k (by omega);have c1:f (k+1)=f (1+k):=by rw[Nat.add_comm]
  rw[tK,aR,aT,cBF,gP ⟨g1,g2⟩,e]
  by_cases hc:0<dQ (dv (f (k+1))) (dv (mT f k))
  ·have hb:mT f (k+1)=f (1+k):=by
    rw[<-c1];show(bif decide (0<dQ (dv (f (k+1))) (dv (mT f k)))then f (k+1)else mT f k)=_;rw[decide_eq_true hc];rfl
   rw[c1]at hc;rw[aR hc];rw[hb]at r;exact r
  ·have hb:mT f (k+1)=mT f k:=by
    show(bif decide (0<dQ (dv (f (k+1))) (dv (mT f k)))then f (k+1)else mT f k)=_;rw[decide_eq_false hc];rfl
   rw[c1]at hc;rw[aN hc];rw[hb]at r;exact r
theorem all{a:iW×iW}(h:aW a.1/\aW a.2):∀i,i<2->aW (t2 a.1 a.2 i):=fun i hi=>by
  obtain rfl |rfl:i=0\/i=1:=by omega
  ·exact h.1
  ·exact h.2
theorem Nu{a:iW×iW}(h:aW a.1/\aW a.2):aW (Hb a):=zQ (n:=2) (all h) 1 (by decide)
theorem Nv(a:iW×iW):dv (Hb a)=aDX (dv a.1) (dv a.2):=by
 show dv (bif decide (0<dQ (dv a.2) (dv a.1))then a.2 else a.1)=bif decide (0<dQ (dv a.2) (dv a.1))then dv a.2 else dv a.1
 cases decide (0<dQ (dv a.2) (dv a.1)) <;> rfl
theorem spec:eR E f94 aF (aHI (.pair sB (.pair (sI .u64) (sN .i64))) (false,[],0)) (pFn 98) sp:=fun a u h =>
 (start a.1 a.2).trans (L false 0 1 (t2 a.1 a.2) (by decide) (all h) 1 0 (by decide))
def aJ:dG:=orc2 (aHI (.pair sB (.pair (sI .u64) (sN .i64))) (false,[],0)) (pFn 98) sp
theorem ok:OK 94 aJ:=(dZ E aF (aA Uf.ok aE) func94).jR rfl spec
end jA
namespace Oq
def E:=mE [(94,jA.aJ)] 5 [] [] []
def aF:=bd f60
theorem aU:Nk E aF:=nk
theorem start(a:iW)(b:iW):aG E f60 aF [D.rows 3 2 fun i=>[sc (bool (t2 a b i).fst),ints u64 (t2 a b i).snd.fst,sc (int i64 (t2 a b i).snd.snd)]]=letI C:=t2 a b 1;letI B:=t2 a b 0;letI F:=(B.fst,B.snd.fst,B.snd.snd);letI A:=jA.Hb (F,C.fst,C.snd.fst,C.snd.snd);aO (aW F/\aW (C.fst,C.snd.fst,C.snd.snd)) (some [D.agg [sc (bool A.fst),ints u64 A.snd.fst,sc (int i64 A.snd.snd)]]):=eJ aU
def sp(a:iW×iW):Prop×List D:=(aW a.1/\aW a.2,[.agg [.sc (.bool (jA.Hb a).1),.ints .u64 (jA.Hb a).2.1,.sc (.int .i64 (jA.Hb a).2.2)]])
theorem spec:iD E f60 aF (aHI (.pair sB (.pair (sI .u64) (sN .i64))) (false,[],0)) sp:=fun a h =>
 (start a.1 a.2).trans (gP h)
def aJ:dG:=orc1 (aHI (.pair sB (.pair (sI .u64) (sN .i64))) (false,[],0)) sp
theorem ok:OK 60 aJ:=(dZ E aF (aA jA.ok aE) func60).oS rfl spec
end Oq
namespace Ue
def E:=mE [(49,By.aJ)] 9 [] [] []
def aF:=bd f95
theorem aU:Nk E aF:=nk
theorem start a b c d e f:aG E f95 aF [D.agg [sc (bool a),ints u64 b,sc (int i64 c)],D.agg [sc (bool d),ints u64 e,sc (int i64 f)]]=aO (aW (a,b,c)/\aW (d,e,f)) (some [D.s (sc (bool (decide (dQ (dv (a,b,c)) (dv (d,e,f))<0))))]):=eJ aU
def sp(x y:iW):Prop×List D:=(aW x/\aW y,[.s (.sc (.bool (decide (dQ (dv x) (dv y)<0))))])
theorem spec:eR E f95 aF jE jE sp:=by
 intro x y h;exact(start x.1 x.2.1 x.2.2 y.1 y.2.1 y.2.2).trans (gP h)
def aJ:dG:=orc2 jE jE sp
theorem ok:OK 95 aJ:=(dZ E aF (aA By.ok aE) func95).jR rfl spec
end Ue
namespace jK
def E:=mE [(95,Ue.aJ)] 25 [] [(3,[1,4,5,12,13,14])] []
def aF:=bd f94
theorem aU:Nk E aF:=nk
def L3 a b c d e (f:Nat) (g:Nat->Bool) (h:Nat->List Int) (j:Nat->Int) k l:=nN E f94 aF 3 [vA (sc (Value.func (Fn.func 95) { toList:=[] } { toList:=[] })),bM 1 35 [bC a,sc (slice none 0 0),cV b],bM 2 35 [bC c,eF d,cV e],(A.v (V.one (L.rows 3 f fun i=>[sc (bool (g i)),ints u64 (h i),sc (int i64 (j i))])),none),bK k,bK l]
theorem start(a:iW)(b:iW):aG E f94 aF [D.rows 3 2 fun i=>[sc (bool (t2 a b i).fst),ints u64 (t2 a b i).snd.fst,sc (int i64 (t2 a b i).snd.snd)],D.s (sc (Value.func (Fn.func (95:FuncId)) #[] #[]))]=letI A:=t2 a b (cLC 0);jK.L3 false 0 A.fst A.snd.fst A.snd.snd 1 (fun i=>(t2 a b (cLC 1+i)).fst) (fun i=>(t2 a b (cLC 1+i)).snd.fst) (fun i=>(t2 a b (cLC 1+i)).snd.snd) 1 0:=eJ aU
theorem tK a b c d e f g h j k l:L3 a b c d e f g h j k l=letI A:=(g l.toNat,h l.toNat,j l.toNat);aD (decide (l<k)) (if 0<=l/\l<(f:Int)then aO (aW A/\aW (c,d,e)) (aD (decide (dQ (dv A) (dv (c,d,e))<0)) (jK.L3 a b (g l.toNat) (h l.toNat) (j l.toNat) f (fun i=>g i) (fun i=>h i) (fun i=>j i) k (i64.wrap (l+1))) (jK.L3 a b c d e f (fun i=>g i) (fun i=>h i) (fun i=>j i) k (i64.wrap (l+1))))else none) (some [D.agg [sc (bool c),ints u64 d,sc (int i64 e)]]):=lJ aU
def mT(f:Nat->iW):Nat->iW
 |0=>f 0
 |k+1=>bif decide (dQ (dv (f (k+1))) (dv (mT f k))<0)then f (k+1)else mT f k
def Hb(a:iW×iW):iW:=mT (t2 a.1 a.2) 1
def sp(a:iW×iW)(u:Unit):Prop×List D:=(aW a.1/\aW a.2,[.agg [.sc (.bool (Hb a).1),.ints .u64 (Hb a).2.1,.sc (.int .i64 (Hb a).2.2)]])
theorem zQ{f:Nat->iW}{n:Nat}(hf:∀i,i<n->aW (f i)):∀k,k<n->aW (mT f k)
 |0,h=>hf 0 h
 |k+1,h=>by
  unfold mT;cases decide (dQ (dv (f (k+1))) (dv (mT f k))<0)
  ·exact zQ hf k (by omega)
  ·exact hf (k+1) h
theorem L(b0:Bool)(x1:Int)(n:Nat)(f:Nat->iW)(hn:n<1000)(hf:∀i,i<n+1->aW (f i)):∀d k:Nat,k+d=n->L3 b0 x1 (mT f k).1 (mT f k).2.1 (mT f k).2.2 n (fun i=>(f (1+i)).1) (fun i=>(f (1+i)).2.1) (fun i=>(f (1+i)).2.2) (n:Int) (k:Int)=some [.agg [.sc (.bool (mT f n).1),.ints .u64 (mT f n).2.1,.sc (.int .i64 (mT f n).2.2)]]
 |0,k,h=>by
  obtain rfl:k=n:=by omega
  rw[tK,aN]
 |d+1,k,h=>by
  have e:i64.wrap ((k:Int)+1)=((k+1:Nat):Int):=by rw[wrap_i64];omega
  have r:=L b0 x1 n f hn hf d (k+1) (by omega);have g1:aW (f (1+k)):=hf _ (by omega);have g2:aW (mT f k):=zQ hf k (by omega);have c1:f (k+1)=f (1+k):=by rw[Nat.add_comm]
  rw[tK,aR,aT,cBF,gP ⟨g1,g2⟩,e]
  by_cases hc:dQ (dv (f (k+1))) (dv (mT f k))<0
  ·have hb:mT f (k+1)=f (1+k):=by
    rw[<-c1];show(bif decide (dQ (dv (f (k+1))) (dv (mT f k))<0)then f (k+1)else mT f k)=_;rw[decide_eq_true hc];rfl
   rw[c1]at hc;rw[aR hc];rw[hb]at r;exact r
  ·have hb:mT f (k+1)=mT f k:=by
    show(bif decide (dQ (dv (f (k+1))) (dv (mT f k))<0)then f (k+1)else mT f k)=_;rw[decide_eq_false hc];rfl
   rw[c1]at hc;rw[aN hc];rw[hb]at r;exact r
theorem all{a:iW×iW}(h:aW a.1/\aW a.2):∀i,i<2->aW (t2 a.1 a.2 i):=fun i hi=>by
  obtain rfl |rfl:i=0\/i=1:=by omega
  ·exact h.1
  ·exact h.2
theorem Nu{a:iW×iW}(h:aW a.1/\aW a.2):aW (Hb a):=zQ (n:=2) (all h) 1 (by decide)
theorem Nv(a:iW×iW):dv (Hb a)=aHJ (dv a.1) (dv a.2):=by
 show dv (bif decide (dQ (dv a.2) (dv a.1)<0)then a.2 else a.1)=bif decide (dQ (dv a.2) (dv a.1)<0)then dv a.2 else dv a.1
 cases decide (dQ (dv a.2) (dv a.1)<0) <;> rfl
theorem spec:eR E f94 aF (aHI (.pair sB (.pair (sI .u64) (sN .i64))) (false,[],0)) (pFn 95) sp:=fun a u h =>
 (start a.1 a.2).trans (L false 0 1 (t2 a.1 a.2) (by decide) (all h) 1 0 (by decide))
def aJ:dG:=orc2 (aHI (.pair sB (.pair (sI .u64) (sN .i64))) (false,[],0)) (pFn 95) sp
theorem ok:OK 94 aJ:=(dZ E aF (aA Ue.ok aE) func94).jR rfl spec
end jK
namespace Oo
def E:=mE [(94,jK.aJ)] 5 [] [] []
def aF:=bd f58
theorem aU:Nk E aF:=nk
theorem start(a:iW)(b:iW):aG E f58 aF [D.rows 3 2 fun i=>[sc (bool (t2 a b i).fst),ints u64 (t2 a b i).snd.fst,sc (int i64 (t2 a b i).snd.snd)]]=letI C:=t2 a b 1;letI B:=t2 a b 0;letI F:=(B.fst,B.snd.fst,B.snd.snd);letI A:=jK.Hb (F,C.fst,C.snd.fst,C.snd.snd);aO (aW F/\aW (C.fst,C.snd.fst,C.snd.snd)) (some [D.agg [sc (bool A.fst),ints u64 A.snd.fst,sc (int i64 A.snd.snd)]]):=eJ aU
def sp(a:iW×iW):Prop×List D:=(aW a.1/\aW a.2,[.agg [.sc (.bool (jK.Hb a).1),.ints .u64 (jK.Hb a).2.1,.sc (.int .i64 (jK.Hb a).2.2)]])
theorem spec:iD E f58 aF (aHI (.pair sB (.pair (sI .u64) (sN .i64))) (false,[],0)) sp:=fun a h =>
 (start a.1 a.2).trans (gP h)
def aJ:dG:=orc1 (aHI (.pair sB (.pair (sI .u64) (sN .i64))) (false,[],0)) sp
theorem ok:OK 58 aJ:=(dZ E aF (aA jK.ok aE) func58).oS rfl spec
end Oo
namespace qV
def E:=mE [(46,tI.aJ),(60,Oq.aJ),(58,Oo.aJ),(49,By.aJ),(89,Ol.aJ)] 39 [] [(3,[2,3,4])] [3]
def aF:=bd f52
theorem aU:Nk E aF:=nk
def J3 a b c d e f g h i j k l m n o p:=lE E f52 aF 3 [bM 0 37 [bC a,eF b,cV c,bC d,eF e,cV f],bM 1 37 [bC g,eF h,cV i,bC j,eF k,cV l],bM 2 37 [bC m,sc (slice none 0 0),cV n,bC o,sc (slice none 0 0),cV p]]
theorem start a b c d e f g h i j k l:aG E f52 aF [D.agg [sc (bool a),ints u64 b,sc (int i64 c),sc (bool d),ints u64 e,sc (int i64 f)],D.agg [sc (bool g),ints u64 h,sc (int i64 i),sc (bool j),ints u64 k,sc (int i64 l)]]=aO (dR (a,b,c,d,e,f)) (aO (dR (g,h,i,j,k,l)) (qV.J3 a b c d e f g h i j k l false 0 false 0)):=eJ aU
theorem fB a b c d e f g h i j k l m n o p:J3 a b c d e f g h i j k l m n o p=letI F:=bool false;letI C:=int i64 0;letI B:=jK.Hb ((d,e,f),j,k,l);letI A:=jA.Hb ((a,b,c),g,h,i);aO (aW (a,b,c)/\aW (g,h,i)) (aC A.fst fun q=>aC A.snd.fst fun r=>aC A.snd.snd fun s=>aO (aW (d,e,f)/\aW (j,k,l)) (aC B.fst fun t=>aC B.snd.fst fun u=>aC B.snd.snd fun v=>aO (aW (q,r,s)/\aW (t,u,v)) (aC (dQ (dv (q,r,s)) (dv (t,u,v))) fun w=>aD (decide (0<w)) (some [D.agg [sc F,sc (slice none 0 0),sc C,sc F,sc (slice none 0 0),sc C],D.s (sc F),D.s (sc C)]) (aO (r.length<=1099511627776/\u.length<=1099511627776) (some [D.agg [sc (bool q),ints u64 r,sc (int i64 s),sc (bool t),ints u64 u,sc (int i64 v)],D.s (sc (bool true)),D.s (sc C)]))))):=cJ aU
def meet(s t:vF):Bool:=!decide (0<dQ (aDX (dv (fL s)) (dv (fL t))) (aHJ (dv (fO s)) (dv (fO t))))
def aOO(s t:vF):iW:=jA.Hb (fL s,fL t)
def aOP(s t:vF):iW:=jK.Hb (fO s,fO t)
def sp(s t:vF):Prop×List D:=(dR s/\dR t,[.agg [.sc (.bool (bif meet s t then(aOO s t).1 else false)),.ints .u64 (bif meet s t then(aOO s t).2.1 else []),.sc (.int .i64 (bif meet s t then(aOO s t).2.2 else 0)),.sc (.bool (bif meet s t then(aOP s t).1 else false)),.ints .u64 (bif meet s t then(aOP s t).2.1 else []),.sc (.int .i64 (bif meet s t then(aOP s t).2.2 else 0))],.s (.sc (.bool (meet s t))),.s (.sc (.int .i64 0))])
theorem spec:Ok E f52 aF tN tN sp:=by
 rintro s t ⟨h1,h2⟩;have e:=start s.1 s.2.1 s.2.2.1 s.2.2.2.1 s.2.2.2.2.1 s.2.2.2.2.2 t.1 t.2.1 t.2.2.1 t.2.2.2.1 t.2.2.2.2.1 t.2.2.2.2.2;have g1:aW (aOO s t):=jA.Nu ⟨h1.1,h2.1⟩;have g2:aW (aOP s t):=jK.Nu ⟨h1.2.1,h2.2.1⟩;have l1:=g1.len;have l2:=g2.len;have v1:dv (aOO s t)=aDX (dv (fL s)) (dv (fL t)):=jA.Nv (fL s,fL t);have v2:dv (aOP s t)=aHJ (dv (fO s)) (dv (fO t)):=jK.Nv (fO s,fO t);have x1:jA.Hb ((s.1,s.2.1,s.2.2.1),t.1,t.2.1,t.2.2.1)=aOO s t:=rfl;have x2:jK.Hb ((s.2.2.2.1,s.2.2.2.2.1,s.2.2.2.2.2),t.2.2.2.1,t.2.2.2.2.1,t.2.2.2.2.2)=aOP s t:=rfl;have y1:((aOO s t).1,(aOO s t).2.1,(aOO s t).2.2)=aOO s t:=rfl;have y2:((aOP s t).1,(aOP s t).2.1,(aOP s t).2.2)=aOP s t:=rfl;rw[gP h1,gP h2,fB,gP ⟨h1.1,h2.1⟩]at e;simp only[aB,x1,x2,y1,y2,v1,v2]at e;rw[gP ⟨h1.2.1,h2.2.1⟩,gP ⟨g1,g2⟩]at e;unfold sp
 by_cases c:0<dQ (aDX (dv (fL s)) (dv (fL t))) (aHJ (dv (fO s)) (dv (fO t)))
 ·have hm:meet s t=false:=by unfold meet;rw[decide_eq_true c];rfl
  rw[aR c]at e;refine⟨_,e,?_⟩;dsimp only;rw[hm];exact .cons (De.agg (.cons (Ew.refl _) (.cons (Ew.nil _) (.cons (Ew.refl _) (.cons (Ew.refl _) (.cons (Ew.nil _) (Ae.refl _))))))) (iV.refl _)
 ·have hm:meet s t=true:=by unfold meet;rw[decide_eq_false c];rfl
  rw[aN c,gP ⟨by omega,by omega⟩]at e;refine⟨_,e,?_⟩;dsimp only;rw[hm];exact iV.refl _
def aJ:dG:=orc2 tN tN sp
theorem ok:OK 52 aJ:=(dZ E aF (aA tI.ok (aA Oq.ok (aA Oo.ok (aA By.ok (aA Ol.ok aE))))) func52).aHY rfl spec
end qV
end W
namespace M
open Go AI W
theorem Kr{s t:vF}{V:Rat}(h1:R.qz (dv (fL s))<=V/\V<=R.qz (dv (fO s)))(h2:R.qz (dv (fL t))<=V/\V<=R.qz (dv (fO t))):qV.meet s t=true:=by
 unfold qV.meet;rw[decide_eq_false,cJB];rw[uY];have a:R.qz (aDX (dv (fL s)) (dv (fL t)))<=V:=by rcases aLP (dv (fL s)) (dv (fL t))with h |h <;> rw[h] <;> grind
 have b:V<=R.qz (aHJ (dv (fO s)) (dv (fO t))):=by rcases aKJ (dv (fO s)) (dv (fO t))with h |h <;> rw[h] <;> grind
 grind
theorem nZ{fn b p:Int}(h:b%9223372036854775808<9218868437227405312/\1<=p/\p<=2000)(hf:1<=fn/\fn<=3):bQ.pP fn b p=0:=by
 rw[tP,bG,bG,bG,bG,if_pos h.1]
theorem aIB{fn b p:Int}(h:bQ.pP fn b p=0):bQ.pP fn b 8=0:=by
 rw[tP]at h ⊢;split at h
 ·omega
 ·rename_i c1;rw[if_neg c1];split at h
  ·omega
  ·rename_i c2;rw[if_neg c2,bG,bG];split at h
   ·omega
   ·split at h
    ·omega
    ·exact h
theorem aIS{fn b p:Int}(hb:0<=b/\b<18446744073709551616)(c:bQ.pP fn b p=0):bY.jG (aI.iJ fn b p).2 (-(aI.iJ fn b p).1.1,(aI.iJ fn b p).1.2)=true/\vY.aHH (aI.iJ fn b p).1 (aI.iJ fn b p).2 p=true:=by
 have pt:∀a:Int×Int,vY.aHH a a p=true:=by
  intro a;unfold vY.aHH;rw[beq_iff_eq.2 (Da.2 rfl)];rfl
 by_cases hz:b%9223372036854775808=0
 ·rw[zI c hz]
  by_cases f:fn=2
  ·rw[if_pos f];exact⟨by decide +kernel,pt _⟩
  ·rw[if_neg f];exact⟨by decide +kernel,pt _⟩
 ·obtain⟨hr,hf,hp,z⟩:=uP hb c hz;rw[yC c z];have N:=Ep (p:=p) hr hf hp;exact⟨N.ok,N.thin⟩
end M
namespace W
open Go AI M
namespace aOF
def E:=mE [] 6 [] [] []
def aF:=bd f45
theorem aU:Nk E aF:=nk
theorem start a:aG E f45 aF [D.s (sc (int u64 a))]=some [D.s (sc (bool (decide (a.tmod 9223372036854775808<(9218868437227405312:Int)))))]:=eJ aU
def sp(b:Int):Prop×List D:=(0<=b/\b<18446744073709551616,[.s (.sc (.bool (decide (b%9223372036854775808<9218868437227405312))))])
theorem spec:iD E f45 aF (pN .u64) sp:=by
 intro b h;have h:0<=b/\b<18446744073709551616:=h;refine(start b).trans ?_;rw[Int.tmod_eq_emod_of_nonneg h.1];rfl
def aJ:dG:=orc1 (pN .u64) sp
theorem ok:OK 45 aJ:=(dZ E aF aE func45).oS rfl spec
end aOF
namespace Ac
def E:=mE [(45,aOF.aJ)] 15 [] [] []
def aF:=bd f17
theorem aU:Nk E aF:=nk
theorem start a b:aG E f17 aF [D.s (sc (int u64 a)),D.s (sc (int i64 b))]=letI A:=some [D.s (sc (bool false))];aO (0<=a/\a<18446744073709551616) (aD (decide (a%9223372036854775808<(9218868437227405312:Int))) (aD (decide (1<=b)) (some [D.s (sc (bool (decide (b<=2000))))]) A) A):=eJ aU
def sp(b p:Int):Prop×List D:=(0<=b/\b<18446744073709551616,[.s (.sc (.bool (decide (b%9223372036854775808<9218868437227405312/\1<=p/\p<=2000))))])
theorem spec:eR E f17 aF (pN .u64) (pN .i64) sp:=by
 intro b p h;refine(start b p).trans ((gP h).trans ?_);unfold sp
 by_cases c1:b%9223372036854775808<9218868437227405312
 ·rw[aR c1]
  by_cases c2:1<=p
  ·rw[aR c2]
   by_cases c3:p<=2000
   ·rw[decide_eq_true c3,decide_eq_true ⟨c1,c2,c3⟩]
   ·rw[decide_eq_false c3,decide_eq_false (fun h=>c3 h.2.2)]
  ·rw[aN c2,decide_eq_false (fun h=>c2 h.2.1)]
 ·rw[aN c1,decide_eq_false (fun h=>c1 h.1)]
def aJ:dG:=orc2 (pN .u64) (pN .i64) sp
theorem ok:OK 17 aJ:=(dZ E aF (aA aOF.ok aE) func17).jR rfl spec
end Ac
namespace Aa
def E:=mE [(52,qV.aJ)] 20 [] [] []
def aF:=bd f21
theorem aU:Nk E aF:=nk
theorem start a b c d e f g h i j k l:aG E f21 aF [D.agg [sc (bool a),ints u64 b,sc (int i64 c),sc (bool d),ints u64 e,sc (int i64 f)],D.agg [sc (bool g),ints u64 h,sc (int i64 i),sc (bool j),ints u64 k,sc (int i64 l)]]=aO (dR (a,b,c,d,e,f)/\dR (g,h,i,j,k,l)) (aC (qV.meet (a,b,c,d,e,f) (g,h,i,j,k,l)) fun m=>aD m (some [D.s (sc (bool true))]) (some [D.s (sc (bool false))])):=eJ aU
def sp(s t:vF):Prop×List D:=(dR s/\dR t,[.s (.sc (.bool (qV.meet s t)))])
theorem spec:eR E f21 aF tN tN sp:=by
 intro s t h;refine(start s.1 s.2.1 s.2.2.1 s.2.2.2.1 s.2.2.2.2.1 s.2.2.2.2.2 t.1 t.2.1 t.2.2.1 t.2.2.2.1 t.2.2.2.2.1 t.2.2.2.2.2).trans ((gP h).trans ?_);rw[aB];show aD (qV.meet s t) _ _=some [D.s (.sc (.bool (qV.meet s t)))];cases qV.meet s t <;> rfl
def aJ:dG:=orc2 tN tN sp
theorem ok:OK 21 aJ:=(dZ E aF (aA qV.ok aE) func21).jR rfl spec
end Aa
end W
namespace R
theorem aVS(k:Int)(s c:Rat):rs (-k) (-s) c=-rs k s c:=by
 unfold rs;have h4:k%4=0\/k%4=1\/k%4=2\/k%4=3:=by omega
 rcases h4 with h |h |h |h
 ·rw[if_pos (show -k%4=0 by omega),if_pos h]
 ·rw[if_neg (show ¬-k%4=0 by omega),if_neg (show ¬-k%4=1 by omega),if_neg (show ¬-k%4=2 by omega),if_neg (show ¬k%4=0 by omega),if_pos h]
 ·rw[if_neg (show ¬-k%4=0 by omega),if_neg (show ¬-k%4=1 by omega),if_pos (show -k%4=2 by omega),if_neg (show ¬k%4=0 by omega),if_neg (show ¬k%4=1 by omega),if_pos h]
 ·rw[if_neg (show ¬-k%4=0 by omega),if_pos (show -k%4=1 by omega),if_neg (show ¬k%4=0 by omega),if_neg (show ¬k%4=1 by omega),if_neg (show ¬k%4=2 by omega)];grind
theorem aVU(k:Int)(s c:Rat):rc (-k) (-s) c=rc k s c:=by
 unfold rc;have h4:k%4=0\/k%4=1\/k%4=2\/k%4=3:=by omega
 rcases h4 with h |h |h |h
 ·rw[if_pos (show -k%4=0 by omega),if_pos h]
 ·rw[if_neg (show ¬-k%4=0 by omega),if_neg (show ¬-k%4=1 by omega),if_neg (show ¬-k%4=2 by omega),if_neg (show ¬k%4=0 by omega),if_pos h]
 ·rw[if_neg (show ¬-k%4=0 by omega),if_neg (show ¬-k%4=1 by omega),if_pos (show -k%4=2 by omega),if_neg (show ¬k%4=0 by omega),if_neg (show ¬k%4=1 by omega),if_pos h]
 ·rw[if_neg (show ¬-k%4=0 by omega),if_pos (show -k%4=1 by omega),if_neg (show ¬k%4=0 by omega),if_neg (show ¬k%4=1 by omega),if_neg (show ¬k%4=2 by omega)];grind
theorem Sm(x:Rat)(k:Int):-x-((-k:Int):Rat)*(pi/2)=-(x-(k:Rat)*(pi/2)):=by
 rw[Rat.intCast_neg];grind
theorem aZJ(x:Rat)(k:Int):Sf (-x) (-k)=-Sf x k:=by
 unfold Sf;rw[Sm,xB,Nq,aVS]
theorem bAG(x:Rat)(k:Int):Cf (-x) (-k)=Cf x k:=by
 unfold Cf;rw[Sm,xB,Nq,aVU]
theorem aYK(fn:Int)(x:Rat)(k:Int):fv fn (-x) (-k)=if fn=2 then fv fn x k else -fv fn x k:=by
 unfold fv;rw[aZJ,bAG]
 by_cases f1:fn=1
 ·rw[if_pos f1,bG,if_pos f1]
 ·rw[if_neg f1,if_neg f1]
  by_cases f2:fn=2
  ·rw[if_pos f2,if_pos f2,if_pos f2]
  ·rw[if_neg f2,if_neg f2,if_neg f2,Rat.div_def,Rat.div_def,Rat.neg_mul]
end R
namespace M
open Go AI W
theorem aYL{b s:Nat}{k:Nat}(hs:s=2^k)(hk:k<64)(hb:b<2*s):fU .xor .u64 (b:Int) (s:Int)=if(b:Int)<(s:Int)then(b:Int)+s else(b:Int)-s:=by
 have hs64:2*s<=2^64:=by rw[hs,Nat.mul_comm,<-Nat.pow_succ];exact fM
 rw[AI.tG];unfold AI.bitsI0;simp only;have e:(BitVec.ofInt u64.bits (b:Int) ^^^ BitVec.ofInt u64.bits (s:Int)).toNat=b ^^^ s:=by
  show(BitVec.ofInt 64 (b:Int) ^^^ BitVec.ofInt 64 (s:Int)).toNat=_;rw[BitVec.toNat_xor];have e1:(BitVec.ofInt 64 (b:Int)).toNat=b:=by simp;omega
  have e2:(BitVec.ofInt 64 (s:Int)).toNat=s:=by simp;omega
  rw[e1,e2]
 rw[e];have low:∀n,n<2^k->n ^^^ 2^k=2^k+n:=by
  intro n hn;apply Nat.eq_of_testBit_eq;intro i;rw[Nat.testBit_xor,Nat.testBit_two_pow]
  by_cases hi:i=k
  ·subst hi;rw[Nat.testBit_two_pow_add_eq,cJV hn];simp
  ·by_cases bTT:i<k
   ·rw[Nat.testBit_two_pow_add_gt bTT,decide_eq_false (by omega)];simp
   ·have h1:n.testBit i=false:=cJV (bYH hn (fM));have h2:(2^k+n).testBit i=false:=cJV (bYH (show 2^k+n<2^(k+1) by rw[Nat.pow_succ];omega) (fM));rw[h1,h2,decide_eq_false (by omega)];rfl
 by_cases h:b<s
 ·rw[aT,hs,low b (by omega),wrap_u64];omega
 ·have:=low (b-s) (by omega);have h2:b ^^^ s=b-s:=by
   have h3:b=(b-s) ^^^ 2^k:=by rw[this];omega
   rw[hs]at h3 ⊢
   conv=>lhs;rw[h3]
   rw[Nat.xor_assoc,Nat.xor_self,Nat.xor_zero]
  rw[bG,h2,wrap_u64];omega
def Pj(b:Int):Int:=if b<9223372036854775808 then b+9223372036854775808 else b-9223372036854775808
theorem aPG{b:Int}(hb:0<=b/\b<18446744073709551616):fU .xor .u64 b 9223372036854775808=Pj b:=by
 obtain⟨n,rfl⟩:=Int.eq_ofNat_of_zero_le hb.1;exact aYL (b:=n) (s:=9223372036854775808) (k:=63) rfl (by decide) (by omega)
theorem aKB{b:Int}(hb:0<=b/\b<18446744073709551616):0<=Pj b/\Pj b<18446744073709551616:=by unfold Pj;split <;> omega
theorem Km{b:Int}(hb:0<=b/\b<18446744073709551616):Pj b%9223372036854775808=b%9223372036854775808:=by unfold Pj;split <;> omega
theorem bBY{b:Int}(hb:0<=b/\b<18446744073709551616):gO.wH 64 (Pj b)=-gO.wH 64 b/\gO.wZ 64 (Pj b)=gO.wZ 64 b:=by
 have e3:jH.kF (cE.sG 64)=9223372036854775808:=rfl;unfold gO.wH gO.wZ;rw[e3,Km hb];refine⟨?_,rfl⟩;unfold Pj
 by_cases h:b<9223372036854775808
 ·rw[if_pos h,decide_eq_true (by omega),decide_eq_false (by omega)];rfl
 ·rw[if_neg h,decide_eq_false (by omega),decide_eq_true (by omega)];show _=- -_;rw[Int.neg_neg];rfl
theorem Vx{b:Int}(h:Real b):Real (Pj b):=by
 obtain⟨hb,v⟩:=h;refine⟨aKB hb,?_⟩;rw[Nt]at v ⊢;rw[Km hb];exact v
theorem aTR{b:Int}(hb:0<=b/\b<18446744073709551616):R.qz (aQ.kQ (Pj b))=-R.qz (aQ.kQ b):=by
 obtain⟨h1,h2⟩:=bBY hb;unfold aQ.kQ;rw[h1,h2,Wa,nU]
theorem bBX{b:Int}(h:Real b):kx (Pj b)=-kx b:=by
 have hn:=Cv h;have ho:=Cv (Vx h);refine R.Lh (Vx h).x.fit ho ?_;rw[aTR h.1];unfold R.oY at hn ⊢;rw[R.Sm,R.iB];exact hn
theorem aIC{fn b p:Int}(hb:0<=b/\b<18446744073709551616)(c:bQ.pP fn b p=0):nQ fn (Pj b)=if fn=2 then nQ fn b else -nQ fn b:=by
 unfold nQ;rw[Km hb]
 by_cases hz:b%9223372036854775808=0
 ·rw[if_pos hz,if_pos hz]
  by_cases f:fn=2
  ·rw[if_pos f,if_pos f]
  ·rw[if_neg f,if_neg f];grind
 ·obtain⟨hr,_⟩:=uP hb c hz;rw[if_neg hz,if_neg hz];unfold vx;rw[bBX hr,aTR hb,R.aYK]
theorem aJK(V:Rat):Fu (-V)=-Fu V:=by
 unfold Fu
 by_cases h1:0<V
 ·rw[if_neg (by grind),if_pos (by grind),if_pos h1]
 ·by_cases h2:V<0
  ·rw[if_pos (by grind),if_neg h1,if_pos h2];rfl
  ·rw[if_neg (by grind),if_neg (by grind),if_neg h1,if_neg h2];rfl
theorem aPJ{fn b p:Int}(hb:0<=b/\b<18446744073709551616):bQ.pP fn (Pj b) p=bQ.pP fn b p:=by rw[tP,tP,Km hb]
theorem aJY{w:Int×Int}(h:mU w):mU (kD.wI w):=by
 obtain⟨x1,x2,x3,x4⟩:=h;unfold kD.wI;exact⟨by dsimp only;rw[Int.natAbs_neg];exact x1,x2,fun h=>x3 (by dsimp only at h;omega),fun h=>by dsimp only at h ⊢;have:=x4 (by omega);omega⟩
theorem bBT{a b:Int×Int}(h:dR (uF a b)):dR (uF (kD.wI b) (kD.wI a)):=by
 have p1:=h.1.rB;have p2:=h.2.1.rB;have o:=h.2.2;rw[jU]at p1 o;rw[jV]at p2 o;refine⟨eI (aJY p2),eI (aJY p1),?_⟩;rw[jU,jV,lC];rw[lC]at o;unfold kD.wI;rw[nU,nU];grind
end M
namespace W
open Go AI M
namespace LawMirrors16
def E:=mE [(11,nY.aJ),(17,Ac.aJ),(13,aI.aJ),(18,pU.aJ),(22,kD.aJ),(21,Aa.aJ)] 101 [81,99] [(5,[0,1,2]),(11,[0,7,9,11,13])] [5,11]
def aF:=bd f8
theorem aU:Nk E aF:=nk
def J5 a b c:=lE E f8 aF 5 [bK a,dM b,bK c]
def Jw a b c d e f g h i j k l m n o:=lE E f8 aF 11 [bK a,bM 1 37 [bC b,eF c,cV d,bC e,eF f,cV g],bM 2 37 [bC h,eF i,cV j,bC k,eF l,cV m],bK n,bK o]
theorem start a b c:aG E f8 aF [D.s (sc (int i64 a)),D.s (sc (int u64 b)),D.s (sc (int i64 c))]=letI A:=some [D.s (sc (bool true))];aO True (aO (0<=b/\b<18446744073709551616) (aC (decide (b%9223372036854775808<(9218868437227405312:Int)/\1<=c/\c<=2000)) fun d=>aD (!d) A (aD (decide (a<1)) A (aD (decide (3<a)) A (LawMirrors16.J5 a b c))))):=eJ aU
theorem Oy a b c:J5 a b c=letI F:=some [D.s (sc (bool false))];letI B:=aI.iJ a b c;letI A:=fU BinOp.xor u64 b 9223372036854775808;letI C:=aI.iJ a A c;aO (0<=b/\b<18446744073709551616) (aC (isNeg B.fst.fst) fun d=>aC (M6.dg B.fst.fst.natAbs) fun e=>aC B.fst.snd fun f=>aC (isNeg B.snd.fst) fun g=>aC (M6.dg B.snd.fst.natAbs) fun h=>aC B.snd.snd fun i=>aO (0<=fU BinOp.xor u64 b 9223372036854775808/\fU BinOp.xor u64 b 9223372036854775808<(18446744073709551616:Int)) (aC (isNeg C.fst.fst) fun j=>aC (M6.dg C.fst.fst.natAbs) fun k=>aC C.fst.snd fun l=>aC (isNeg C.snd.fst) fun m=>aC (M6.dg C.snd.fst.natAbs) fun n=>aC C.snd.snd fun o=>aC (bQ.pP a A c) fun p=>aO (0<=b/\b<18446744073709551616) (aC (bQ.pP a b 8) fun q=>aO (0<=fU BinOp.xor u64 b 9223372036854775808/\fU BinOp.xor u64 b 9223372036854775808<(18446744073709551616:Int)) (aC (pU.Yz a A) fun r=>aC (bQ.pP a A 8) fun s=>aD (bQ.pP a b c !=0) F (aD (p !=0) F (aD (q !=0) F (aD (s !=0) F (LawMirrors16.Jw a d e f g h i j k l m n o (pU.Yz a b) r)))))))):=cJ aU
theorem wA a b c d e f g h i j k l m n o:Jw a b c d e f g h i j k l m n o=letI C:=some [D.s (sc (bool false))];letI B:=(b,c,d,e,f,g);letI A:=(h,i,j,k,l,m);letI G:=dv (fL A);letI F:=dv (fO A);aD (a==2) (aD (n==o) (aO (dR B/\dR A) (aC (qV.meet B A) fun p=>some [D.s (sc (bool p))])) C) (aO (dR A) (aC (isNeg (-F.fst)) fun q=>aC (M6.dg (-F.fst).natAbs) fun r=>aC F.snd fun s=>aC (isNeg (-G.fst)) fun t=>aC (M6.dg (-G.fst).natAbs) fun u=>aC G.snd fun v=>aD (n==i64.wrap ((0:Int)-o)) (aO (dR B/\dR (q,r,s,t,u,v)) (aC (qV.meet B (q,r,s,t,u,v)) fun w=>some [D.s (sc (bool w))])) C)):=cJ aU
def sp(fn b p:Int):Prop×List D:=(0<=b/\b<18446744073709551616,[.s (.sc (.bool true))])
theorem spec:sR E f8 aF (pN .i64) (pN .u64) (pN .i64) sp:=by
 intro fn b p hb;have hb:0<=b/\b<18446744073709551616:=hb;refine(start fn b p).trans ((gP trivial).trans ((gP hb).trans ?_));rw[aB]
 by_cases c1:b%9223372036854775808<9218868437227405312/\1<=p/\p<=2000
 ·rw[decide_eq_true c1,Bool.not_true,bF]
  by_cases f1:fn<1
  ·rw[aR f1];rfl
  ·rw[aN f1]
   by_cases f3:3<fn
   ·rw[aR f3];rfl
   ·have ho:=aKB hb;have e1:=nZ (p:=p) c1 (fn:=fn) (by omega);have e8:=aIB e1;have o1:bQ.pP fn (Pj b) p=0:=(aPJ hb).trans e1;have o8:=aIB o1;have s1:=aI.yB (fn:=fn) (p:=p) hb;have s2:=aI.yB (fn:=fn) (p:=p) ho;have v1:=zJ hb e1;have v2:=zJ ho o1;have g1:=Lu hb e8;have g2:=Lu ho o8;have vo:=aIC hb e1;rw[aN f3,Oy,aPG hb,gP hb,aB,aB,aB,aB,aB,aB,gP ho,aB,aB,aB,aB,aB,aB,aB,gP hb,aB,gP ho,aB,aB,e1,o1,e8,o8,gG rfl,gG rfl,gG rfl,gG rfl,wA,aI.fold,aI.fold]
    by_cases f2:fn=2
    ·rw[if_pos f2]at vo;rw[vo]at v2 g2;have m:qV.meet (uF (aI.iJ fn b p).1 (aI.iJ fn b p).2) (uF (aI.iJ fn (Pj b) p).1 (aI.iJ fn (Pj b) p).2)=true:=Kr (V:=nQ fn b) (by rw[jU,jV];exact v1) (by rw[jU,jV];exact v2);rw[cL f2,cL (g1.trans g2.symm)];refine(gP ⟨s1,s2⟩).trans ?_;rw[aB,m];rfl
    ·rw[if_neg f2]at vo;rw[vo]at v2 g2;rw[aJK]at g2;have s3:=bBT s2;have m:qV.meet (uF (aI.iJ fn b p).1 (aI.iJ fn b p).2) (uF (kD.wI (aI.iJ fn (Pj b) p).2) (kD.wI (aI.iJ fn (Pj b) p).1))=true:=by
      refine Kr (V:=nQ fn b) (by rw[jU,jV];exact v1) ?_;rw[jU,jV];unfold kD.wI;rw[nU,nU];constructor <;> grind
     have sr:Fu (nQ fn b)=-1\/Fu (nQ fn b)=0\/Fu (nQ fn b)=1:=by
      unfold Fu;split
      ·exact Or.inr (Or.inr rfl)
      ·split
       ·exact Or.inl rfl
       ·exact Or.inr (Or.inl rfl)
     have w:i64.wrap (0-pU.Yz fn (Pj b))=pU.Yz fn b:=by
      rw[wrap_i64];omega
     rw[cO f2,jU,jV];refine(gP s2).trans ?_;rw[aB,aB,aB,aB,aB,aB,w,cL rfl];refine(gP ⟨s1,s3⟩).trans ?_;rw[aB];show some [D.s (S.sc (.bool (qV.meet (uF (aI.iJ fn b p).1 (aI.iJ fn b p).2) (uF (kD.wI (aI.iJ fn (Pj b) p).2) (kD.wI (aI.iJ fn (Pj b) p).1)))))]=_;rw[m];rfl
 ·rw[decide_eq_false c1,cJB,bT];rfl
def aJ:dG:=orc3 (pN .i64) (pN .u64) (pN .i64) sp
theorem fnok:qG prog E 8 f8 aF:=Hy oA mixed (iH _ rfl (aA nY.ok (aA Ac.ok (aA aI.ok (aA pU.ok (aA kD.ok (aA Aa.ok aE)))))) (lA)) func8 rfl rfl rfl
theorem ok:lT prog base.glob 8 aJ:=fnok.Cq rfl spec
end LawMirrors16
end W
end Go.Proofs.YtaajbopgknekmaaGreatDoor
end
