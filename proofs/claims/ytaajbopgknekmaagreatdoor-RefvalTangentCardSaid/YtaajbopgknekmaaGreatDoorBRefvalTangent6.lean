/- Contracts of functions and laws, for the claim on RefvalTangent. -/
import Derived.Test.YtaajbopgknekmaaGreatDoorBShared5
set_option linter.unusedVariables false
set_option linter.unusedSimpArgs false
set_option exponentiation.threshold 10000000
noncomputable section
open Go.IntKind(i8 i16 i32 i64 u8 u16 u32 u64)
open Go.Proofs.Tryz
open Int renaming toNat->cLC,toNat_natCast->cBF
open Bool renaming not_false->cJB
namespace Go.Proofs.YtaajbopgknekmaaGreatDoor
open Go.Value(int bool slice)
open AI.S(sc ints)
namespace W
open Go AI M
namespace Uf
def E:=mE [(49,By.aJ)] 9 [] [] []
def aF:=bd f98
theorem aU:Nk E aF:=nk
theorem start a b c d e f:aG E f98 aF [D.agg [sc (bool a),ints u64 b,sc (int i64 c)],D.agg [sc (bool d),ints u64 e,sc (int i64 f)]]=aO (aW (a,b,c)/\aW (d,e,f)) (some [D.s (sc (bool (decide (0<dQ (dv (a,b,c)) (dv (d,e,f))))))]):=eJ aU
def sp(x y:iW):Prop×List D:=(aW x/\aW y,[.s (.sc (.bool (decide (0<dQ (dv x) (dv y)))))])
theorem spec:eR E f98 aF jE jE sp:=by
 intro x y h;exact(start x.1 x.2.1 x.2.2 y.1 y.2.1 y.2.2).trans (gP h)
def aJ:dG:=orc2 jE jE sp
theorem ok:OK 98 aJ:=(dZ E aF (aA By.ok aE) func98).jR rfl spec
end Uf
namespace jA
def E:=mE [(98,Uf.aJ)] 25 [] [(3,[1,4,5,12,13,14])] []
def aF:=bd f94
theorem aU:Nk E aF:=nk
def L3 a b c d e (f:Nat) (g:Nat->Bool) (h:Nat->List Int) (j:Nat->Int) k l:=nN E f94 aF 3 [vA (sc (Value.func (Fn.func 98) { toList:=[] } { toList:=[] })),bM 1 35 [bC a,sc (slice none 0 0),cV b],bM 2 35 [bC c,eF d,cV e],(A.v (V.one (L.rows 3 f fun i=>[sc (bool (g i)),ints u64 (h i),sc (int i64 (j i))])),none),bK k,bK l]
theorem start(a:iW)(b:iW):aG E f94 aF [D.rows 3 2 fun i=>[sc (bool (t2 a b i).fst),ints u64 (t2 a b i).snd.fst,sc (int i64 (t2 a b i).snd.snd)],D.s (sc (Value.func (Fn.func (98:FuncId)) #[] #[]))]=letI A:=t2 a b (cLC 0);jA.L3 false 0 A.fst A.snd.fst A.snd.snd 1 (fun i=>(t2 a b (cLC 1+i)).fst) (fun i=>(t2 a b (cLC 1+i)).snd.fst) (fun i=>(t2 a b (cLC 1+i)).snd.snd) 1 0:=eJ aU
theorem tK a b c d e f g h j k l:L3 a b c d e f g h j k l=letI A:=(g l.toNat,h l.toNat,j l.toNat);aD (decide (l<k)) (if 0<=l/\l<(f:Int)then aO (aW A/\aW (c,d,e)) (aD (decide (0<dQ (dv A) (dv (c,d,e)))) (jA.L3 a b (g l.toNat) (h l.toNat) (j l.toNat) f (fun i=>g i) (fun i=>h i) (fun i=>j i) k (i64.wrap (l+1))) (jA.L3 a b c d e f (fun i=>g i) (fun i=>h i) (fun i=>j i) k (i64.wrap (l+1))))else none) (some [D.agg [sc (bool c),ints u64 d,sc (int i64 e)]]):=lJ aU
def mT(f:Nat->iW):Nat->iW
 |0=>f 0
 |k+1=>bif decide (0<dQ (dv (f (k+1))) (dv (mT f k)))then f (k+1)else mT f k
def Hb(a:iW×iW):iW:=mT (t2 a.1 a.2) 1
def sp(a:iW×iW)(u:Unit):Prop×List D:=(aW a.1/\aW a.2,[.agg [.sc (.bool (Hb a).1),.ints .u64 (Hb a).2.1,.sc (.int .i64 (Hb a).2.2)]])
theorem zQ{f:Nat->iW}{n:Nat}(hf:∀i,i<n->aW (f i)):∀k,k<n->aW (mT f k)
 |0,h=>hf 0 h
 |k+1,h=>by
  unfold mT;cases decide (0<dQ (dv (f (k+1))) (dv (mT f k)))
  ·exact zQ hf k (by omega)
  ·exact hf (k+1) h
theorem L(b0:Bool)(x1:Int)(n:Nat)(f:Nat->iW)(hn:n<1000)(hf:∀i,i<n+1->aW (f i)):∀d k:Nat,k+d=n->L3 b0 x1 (mT f k).1 (mT f k).2.1 (mT f k).2.2 n (fun i=>(f (1+i)).1) (fun i=>(f (1+i)).2.1) (fun i=>(f (1+i)).2.2) (n:Int) (k:Int)=some [.agg [.sc (.bool (mT f n).1),.ints .u64 (mT f n).2.1,.sc (.int .i64 (mT f n).2.2)]]
 |0,k,h=>by
  obtain rfl:k=n:=by omega
  rw[tK,aN]
 |d+1,k,h=>by
  have e:i64.wrap ((k:Int)+1)=((k+1:Nat):Int):=by rw[wrap_i64];omega
  have r:=L b0 x1 n f hn hf d (k+1) (by omega);have g1:aW (f (1+k)):=hf _ (by omega);have g2:aW (mT f k):=zQ hf k (by omega);have c1:f (k+1)=f (1+k):=by rw[Nat.add_comm]
  rw[tK,aR,aT,cBF,gP ⟨g1,g2⟩,e]
  by_cases hc:0<dQ (dv (f (k+1))) (dv (mT f k))
  ·have hb:mT f (k+1)=f (1+k):=by
    rw[<-c1];show(bif decide (0<dQ (dv (f (k+1))) (dv (mT f k)))then f (k+1)else mT f k)=_;rw[decide_eq_true hc];rfl
   rw[c1]at hc;rw[aR hc];rw[hb]at r;exact r
  ·have hb:mT f (k+1)=mT f k:=by
    show(bif decide (0<dQ (dv (f (k+1))) (dv (mT f k)))then f (k+1)else mT f k)=_;rw[decide_eq_false hc];rfl
   rw[c1]at hc;rw[aN hc];rw[hb]at r;exact r
theorem all{a:iW×iW}(h:aW a.1/\aW a.2):∀i,i<2->aW (t2 a.1 a.2 i):=fun i hi=>by
  obtain rfl |rfl:i=0\/i=1:=by omega
  ·exact h.1
  ·exact h.2
theorem Nu{a:iW×iW}(h:aW a.1/\aW a.2):aW (Hb a):=zQ (n:=2) (all h) 1 (by decide)
theorem Nv(a:iW×iW):dv (Hb a)=aDX (dv a.1) (dv a.2):=by
 show dv (bif decide (0<dQ (dv a.2) (dv a.1))then a.2 else a.1)=bif decide (0<dQ (dv a.2) (dv a.1))then dv a.2 else dv a.1
 cases decide (0<dQ (dv a.2) (dv a.1)) <;> rfl
theorem spec:eR E f94 aF (aHI (.pair sB (.pair (sI .u64) (sN .i64))) (false,[],0)) (pFn 98) sp:=fun a u h =>
 (start a.1 a.2).trans (L false 0 1 (t2 a.1 a.2) (by decide) (all h) 1 0 (by decide))
def aJ:dG:=orc2 (aHI (.pair sB (.pair (sI .u64) (sN .i64))) (false,[],0)) (pFn 98) sp
theorem ok:OK 94 aJ:=(dZ E aF (aA Uf.ok aE) func94).jR rfl spec
end jA
namespace Oq
def E:=mE [(94,jA.aJ)] 5 [] [] []
def aF:=bd f60
theorem aU:Nk E aF:=nk
theorem start(a:iW)(b:iW):aG E f60 aF [D.rows 3 2 fun i=>[sc (bool (t2 a b i).fst),ints u64 (t2 a b i).snd.fst,sc (int i64 (t2 a b i).snd.snd)]]=letI C:=t2 a b 1;letI B:=t2 a b 0;letI F:=(B.fst,B.snd.fst,B.snd.snd);letI A:=jA.Hb (F,C.fst,C.snd.fst,C.snd.snd);aO (aW F/\aW (C.fst,C.snd.fst,C.snd.snd)) (some [D.agg [sc (bool A.fst),ints u64 A.snd.fst,sc (int i64 A.snd.snd)]]):=eJ aU
def sp(a:iW×iW):Prop×List D:=(aW a.1/\aW a.2,[.agg [.sc (.bool (jA.Hb a).1),.ints .u64 (jA.Hb a).2.1,.sc (.int .i64 (jA.Hb a).2.2)]])
theorem spec:iD E f60 aF (aHI (.pair sB (.pair (sI .u64) (sN .i64))) (false,[],0)) sp:=fun a h =>
 (start a.1 a.2).trans (gP h)
def aJ:dG:=orc1 (aHI (.pair sB (.pair (sI .u64) (sN .i64))) (false,[],0)) sp
theorem ok:OK 60 aJ:=(dZ E aF (aA jA.ok aE) func60).oS rfl spec
end Oq
namespace Ue
def E:=mE [(49,By.aJ)] 9 [] [] []
def aF:=bd f95
theorem aU:Nk E aF:=nk
theorem start a b c d e f:aG E f95 aF [D.agg [sc (bool a),ints u64 b,sc (int i64 c)],D.agg [sc (bool d),ints u64 e,sc (int i64 f)]]=aO (aW (a,b,c)/\aW (d,e,f)) (some [D.s (sc (bool (decide (dQ (dv (a,b,c)) (dv (d,e,f))<0))))]):=eJ aU
def sp(x y:iW):Prop×List D:=(aW x/\aW y,[.s (.sc (.bool (decide (dQ (dv x) (dv y)<0))))])
theorem spec:eR E f95 aF jE jE sp:=by
 intro x y h;exact(start x.1 x.2.1 x.2.2 y.1 y.2.1 y.2.2).trans (gP h)
def aJ:dG:=orc2 jE jE sp
theorem ok:OK 95 aJ:=(dZ E aF (aA By.ok aE) func95).jR rfl spec
end Ue
namespace jK
def E:=mE [(95,Ue.aJ)] 25 [] [(3,[1,4,5,12,13,14])] []
def aF:=bd f94
theorem aU:Nk E aF:=nk
def L3 a b c d e (f:Nat) (g:Nat->Bool) (h:Nat->List Int) (j:Nat->Int) k l:=nN E f94 aF 3 [vA (sc (Value.func (Fn.func 95) { toList:=[] } { toList:=[] })),bM 1 35 [bC a,sc (slice none 0 0),cV b],bM 2 35 [bC c,eF d,cV e],(A.v (V.one (L.rows 3 f fun i=>[sc (bool (g i)),ints u64 (h i),sc (int i64 (j i))])),none),bK k,bK l]
theorem start(a:iW)(b:iW):aG E f94 aF [D.rows 3 2 fun i=>[sc (bool (t2 a b i).fst),ints u64 (t2 a b i).snd.fst,sc (int i64 (t2 a b i).snd.snd)],D.s (sc (Value.func (Fn.func (95:FuncId)) #[] #[]))]=letI A:=t2 a b (cLC 0);jK.L3 false 0 A.fst A.snd.fst A.snd.snd 1 (fun i=>(t2 a b (cLC 1+i)).fst) (fun i=>(t2 a b (cLC 1+i)).snd.fst) (fun i=>(t2 a b (cLC 1+i)).snd.snd) 1 0:=eJ aU
theorem tK a b c d e f g h j k l:L3 a b c d e f g h j k l=letI A:=(g l.toNat,h l.toNat,j l.toNat);aD (decide (l<k)) (if 0<=l/\l<(f:Int)then aO (aW A/\aW (c,d,e)) (aD (decide (dQ (dv A) (dv (c,d,e))<0)) (jK.L3 a b (g l.toNat) (h l.toNat) (j l.toNat) f (fun i=>g i) (fun i=>h i) (fun i=>j i) k (i64.wrap (l+1))) (jK.L3 a b c d e f (fun i=>g i) (fun i=>h i) (fun i=>j i) k (i64.wrap (l+1))))else none) (some [D.agg [sc (bool c),ints u64 d,sc (int i64 e)]]):=lJ aU
def mT(f:Nat->iW):Nat->iW
 |0=>f 0
 |k+1=>bif decide (dQ (dv (f (k+1))) (dv (mT f k))<0)then f (k+1)else mT f k
def Hb(a:iW×iW):iW:=mT (t2 a.1 a.2) 1
def sp(a:iW×iW)(u:Unit):Prop×List D:=(aW a.1/\aW a.2,[.agg [.sc (.bool (Hb a).1),.ints .u64 (Hb a).2.1,.sc (.int .i64 (Hb a).2.2)]])
theorem zQ{f:Nat->iW}{n:Nat}(hf:∀i,i<n->aW (f i)):∀k,k<n->aW (mT f k)
 |0,h=>hf 0 h
 |k+1,h=>by
  unfold mT;cases decide (dQ (dv (f (k+1))) (dv (mT f k))<0)
  ·exact zQ hf k (by omega)
  ·exact hf (k+1) h
theorem L(b0:Bool)(x1:Int)(n:Nat)(f:Nat->iW)(hn:n<1000)(hf:∀i,i<n+1->aW (f i)):∀d k:Nat,k+d=n->L3 b0 x1 (mT f k).1 (mT f k).2.1 (mT f k).2.2 n (fun i=>(f (1+i)).1) (fun i=>(f (1+i)).2.1) (fun i=>(f (1+i)).2.2) (n:Int) (k:Int)=some [.agg [.sc (.bool (mT f n).1),.ints .u64 (mT f n).2.1,.sc (.int .i64 (mT f n).2.2)]]
 |0,k,h=>by
  obtain rfl:k=n:=by omega
  rw[tK,aN]
 |d+1,k,h=>by
  have e:i64.wrap ((k:Int)+1)=((k+1:Nat):Int):=by rw[wrap_i64];omega
  have r:=L b0 x1 n f hn hf d (k+1) (by omega);have g1:aW (f (1+k)):=hf _ (by omega);have g2:aW (mT f k):=zQ hf k (by omega);have c1:f (k+1)=f (1+k):=by rw[Nat.add_comm]
  rw[tK,aR,aT,cBF,gP ⟨g1,g2⟩,e]
  by_cases hc:dQ (dv (f (k+1))) (dv (mT f k))<0
  ·have hb:mT f (k+1)=f (1+k):=by
    rw[<-c1];show(bif decide (dQ (dv (f (k+1))) (dv (mT f k))<0)then f (k+1)else mT f k)=_;rw[decide_eq_true hc];rfl
   rw[c1]at hc;rw[aR hc];rw[hb]at r;exact r
  ·have hb:mT f (k+1)=mT f k:=by
    show(bif decide (dQ (dv (f (k+1))) (dv (mT f k))<0)then f (k+1)else mT f k)=_;rw[decide_eq_false hc];rfl
   rw[c1]at hc;rw[aN hc];rw[hb]at r;exact r
theorem all{a:iW×iW}(h:aW a.1/\aW a.2):∀i,i<2->aW (t2 a.1 a.2 i):=fun i hi=>by
  obtain rfl |rfl:i=0\/i=1:=by omega
  ·exact h.1
  ·exact h.2
theorem Nu{a:iW×iW}(h:aW a.1/\aW a.2):aW (Hb a):=zQ (n:=2) (all h) 1 (by decide)
theorem Nv(a:iW×iW):dv (Hb a)=aHJ (dv a.1) (dv a.2):=by
 show dv (bif decide (dQ (dv a.2) (dv a.1)<0)then a.2 else a.1)=bif decide (dQ (dv a.2) (dv a.1)<0)then dv a.2 else dv a.1
 cases decide (dQ (dv a.2) (dv a.1)<0) <;> rfl
theorem spec:eR E f94 aF (aHI (.pair sB (.pair (sI .u64) (sN .i64))) (false,[],0)) (pFn 95) sp:=fun a u h =>
 (start a.1 a.2).trans (L false 0 1 (t2 a.1 a.2) (by decide) (all h) 1 0 (by decide))
def aJ:dG:=orc2 (aHI (.pair sB (.pair (sI .u64) (sN .i64))) (false,[],0)) (pFn 95) sp
theorem ok:OK 94 aJ:=(dZ E aF (aA Ue.ok aE) func94).jR rfl spec
end jK
namespace Oo
def E:=mE [(94,jK.aJ)] 5 [] [] []
def aF:=bd f58
theorem aU:Nk E aF:=nk
theorem start(a:iW)(b:iW):aG E f58 aF [D.rows 3 2 fun i=>[sc (bool (t2 a b i).fst),ints u64 (t2 a b i).snd.fst,sc (int i64 (t2 a b i).snd.snd)]]=letI C:=t2 a b 1;letI B:=t2 a b 0;letI F:=(B.fst,B.snd.fst,B.snd.snd);letI A:=jK.Hb (F,C.fst,C.snd.fst,C.snd.snd);aO (aW F/\aW (C.fst,C.snd.fst,C.snd.snd)) (some [D.agg [sc (bool A.fst),ints u64 A.snd.fst,sc (int i64 A.snd.snd)]]):=eJ aU
def sp(a:iW×iW):Prop×List D:=(aW a.1/\aW a.2,[.agg [.sc (.bool (jK.Hb a).1),.ints .u64 (jK.Hb a).2.1,.sc (.int .i64 (jK.Hb a).2.2)]])
theorem spec:iD E f58 aF (aHI (.pair sB (.pair (sI .u64) (sN .i64))) (false,[],0)) sp:=fun a h =>
 (start a.1 a.2).trans (gP h)
def aJ:dG:=orc1 (aHI (.pair sB (.pair (sI .u64) (sN .i64))) (false,[],0)) sp
theorem ok:OK 58 aJ:=(dZ E aF (aA jK.ok aE) func58).oS rfl spec
end Oo
namespace qV
def E:=mE [(46,tI.aJ),(60,Oq.aJ),(58,Oo.aJ),(49,By.aJ),(89,Ol.aJ)] 39 [] [(3,[2,3,4])] [3]
def aF:=bd f52
theorem aU:Nk E aF:=nk
def J3 a b c d e f g h i j k l m n o p:=lE E f52 aF 3 [bM 0 37 [bC a,eF b,cV c,bC d,eF e,cV f],bM 1 37 [bC g,eF h,cV i,bC j,eF k,cV l],bM 2 37 [bC m,sc (slice none 0 0),cV n,bC o,sc (slice none 0 0),cV p]]
theorem start a b c d e f g h i j k l:aG E f52 aF [D.agg [sc (bool a),ints u64 b,sc (int i64 c),sc (bool d),ints u64 e,sc (int i64 f)],D.agg [sc (bool g),ints u64 h,sc (int i64 i),sc (bool j),ints u64 k,sc (int i64 l)]]=aO (dR (a,b,c,d,e,f)) (aO (dR (g,h,i,j,k,l)) (qV.J3 a b c d e f g h i j k l false 0 false 0)):=eJ aU
theorem fB a b c d e f g h i j k l m n o p:J3 a b c d e f g h i j k l m n o p=letI F:=bool false;letI C:=int i64 0;letI B:=jK.Hb ((d,e,f),j,k,l);letI A:=jA.Hb ((a,b,c),g,h,i);aO (aW (a,b,c)/\aW (g,h,i)) (aC A.fst fun q=>aC A.snd.fst fun r=>aC A.snd.snd fun s=>aO (aW (d,e,f)/\aW (j,k,l)) (aC B.fst fun t=>aC B.snd.fst fun u=>aC B.snd.snd fun v=>aO (aW (q,r,s)/\aW (t,u,v)) (aC (dQ (dv (q,r,s)) (dv (t,u,v))) fun w=>aD (decide (0<w)) (some [D.agg [sc F,sc (slice none 0 0),sc C,sc F,sc (slice none 0 0),sc C],D.s (sc F),D.s (sc C)]) (aO (r.length<=1099511627776/\u.length<=1099511627776) (some [D.agg [sc (bool q),ints u64 r,sc (int i64 s),sc (bool t),ints u64 u,sc (int i64 v)],D.s (sc (bool true)),D.s (sc C)]))))):=cJ aU
def meet(s t:vF):Bool:=!decide (0<dQ (aDX (dv (fL s)) (dv (fL t))) (aHJ (dv (fO s)) (dv (fO t))))
def aOO(s t:vF):iW:=jA.Hb (fL s,fL t)
def aOP(s t:vF):iW:=jK.Hb (fO s,fO t)
def sp(s t:vF):Prop×List D:=(dR s/\dR t,[.agg [.sc (.bool (bif meet s t then(aOO s t).1 else false)),.ints .u64 (bif meet s t then(aOO s t).2.1 else []),.sc (.int .i64 (bif meet s t then(aOO s t).2.2 else 0)),.sc (.bool (bif meet s t then(aOP s t).1 else false)),.ints .u64 (bif meet s t then(aOP s t).2.1 else []),.sc (.int .i64 (bif meet s t then(aOP s t).2.2 else 0))],.s (.sc (.bool (meet s t))),.s (.sc (.int .i64 0))])
theorem spec:Ok E f52 aF tN tN sp:=by
 rintro s t ⟨h1,h2⟩;have e:=start s.1 s.2.1 s.2.2.1 s.2.2.2.1 s.2.2.2.2.1 s.2.2.2.2.2 t.1 t.2.1 t.2.2.1 t.2.2.2.1 t.2.2.2.2.1 t.2.2.2.2.2;have g1:aW (aOO s t):=jA.Nu ⟨h1.1,h2.1⟩;have g2:aW (aOP s t):=jK.Nu ⟨h1.2.1,h2.2.1⟩;have l1:=g1.len;have l2:=g2.len;have v1:dv (aOO s t)=aDX (dv (fL s)) (dv (fL t)):=jA.Nv (fL s,fL t);have v2:dv (aOP s t)=aHJ (dv (fO s)) (dv (fO t)):=jK.Nv (fO s,fO t);have x1:jA.Hb ((s.1,s.2.1,s.2.2.1),t.1,t.2.1,t.2.2.1)=aOO s t:=rfl;have x2:jK.Hb ((s.2.2.2.1,s.2.2.2.2.1,s.2.2.2.2.2),t.2.2.2.1,t.2.2.2.2.1,t.2.2.2.2.2)=aOP s t:=rfl;have y1:((aOO s t).1,(aOO s t).2.1,(aOO s t).2.2)=aOO s t:=rfl;have y2:((aOP s t).1,(aOP s t).2.1,(aOP s t).2.2)=aOP s t:=rfl;rw[gP h1,gP h2,fB,gP ⟨h1.1,h2.1⟩]at e;simp only[aB,x1,x2,y1,y2,v1,v2]at e;rw[gP ⟨h1.2.1,h2.2.1⟩,gP ⟨g1,g2⟩]at e;unfold sp
 by_cases c:0<dQ (aDX (dv (fL s)) (dv (fL t))) (aHJ (dv (fO s)) (dv (fO t)))
 ·have hm:meet s t=false:=by unfold meet;rw[decide_eq_true c];rfl
  rw[aR c]at e;refine⟨_,e,?_⟩;dsimp only;rw[hm];exact .cons (De.agg (.cons (Ew.refl _) (.cons (Ew.nil _) (.cons (Ew.refl _) (.cons (Ew.refl _) (.cons (Ew.nil _) (Ae.refl _))))))) (iV.refl _)
 ·have hm:meet s t=true:=by unfold meet;rw[decide_eq_false c];rfl
  rw[aN c,gP ⟨by omega,by omega⟩]at e;refine⟨_,e,?_⟩;dsimp only;rw[hm];exact iV.refl _
def aJ:dG:=orc2 tN tN sp
theorem ok:OK 52 aJ:=(dZ E aF (aA tI.ok (aA Oq.ok (aA Oo.ok (aA By.ok (aA Ol.ok aE))))) func52).aHY rfl spec
end qV
end W
namespace M
open Go AI W
theorem Kr{s t:vF}{V:Rat}(h1:R.qz (dv (fL s))<=V/\V<=R.qz (dv (fO s)))(h2:R.qz (dv (fL t))<=V/\V<=R.qz (dv (fO t))):qV.meet s t=true:=by
 unfold qV.meet;rw[decide_eq_false,cJB];rw[uY];have a:R.qz (aDX (dv (fL s)) (dv (fL t)))<=V:=by rcases aLP (dv (fL s)) (dv (fL t))with h |h <;> rw[h] <;> grind
 have b:V<=R.qz (aHJ (dv (fO s)) (dv (fO t))):=by rcases aKJ (dv (fO s)) (dv (fO t))with h |h <;> rw[h] <;> grind
 grind
theorem nZ{fn b p:Int}(h:b%9223372036854775808<9218868437227405312/\1<=p/\p<=2000)(hf:1<=fn/\fn<=3):bQ.pP fn b p=0:=by
 rw[tP,bG,bG,bG,bG,if_pos h.1]
theorem aIB{fn b p:Int}(h:bQ.pP fn b p=0):bQ.pP fn b 8=0:=by
 rw[tP]at h ⊢;split at h
 ·omega
 ·rename_i c1;rw[if_neg c1];split at h
  ·omega
  ·rename_i c2;rw[if_neg c2,bG,bG];split at h
   ·omega
   ·split at h
    ·omega
    ·exact h
theorem aIS{fn b p:Int}(hb:0<=b/\b<18446744073709551616)(c:bQ.pP fn b p=0):bY.jG (aI.iJ fn b p).2 (-(aI.iJ fn b p).1.1,(aI.iJ fn b p).1.2)=true/\vY.aHH (aI.iJ fn b p).1 (aI.iJ fn b p).2 p=true:=by
 have pt:∀a:Int×Int,vY.aHH a a p=true:=by
  intro a;unfold vY.aHH;rw[beq_iff_eq.2 (Da.2 rfl)];rfl
 by_cases hz:b%9223372036854775808=0
 ·rw[zI c hz]
  by_cases f:fn=2
  ·rw[if_pos f];exact⟨by decide +kernel,pt _⟩
  ·rw[if_neg f];exact⟨by decide +kernel,pt _⟩
 ·obtain⟨hr,hf,hp,z⟩:=uP hb c hz;rw[yC c z];have N:=Ep (p:=p) hr hf hp;exact⟨N.ok,N.thin⟩
end M
namespace W
open Go AI M
namespace aOF
def E:=mE [] 6 [] [] []
def aF:=bd f45
theorem aU:Nk E aF:=nk
theorem start a:aG E f45 aF [D.s (sc (int u64 a))]=some [D.s (sc (bool (decide (a.tmod 9223372036854775808<(9218868437227405312:Int)))))]:=eJ aU
def sp(b:Int):Prop×List D:=(0<=b/\b<18446744073709551616,[.s (.sc (.bool (decide (b%9223372036854775808<9218868437227405312))))])
theorem spec:iD E f45 aF (pN .u64) sp:=by
 intro b h;have h:0<=b/\b<18446744073709551616:=h;refine(start b).trans ?_;rw[Int.tmod_eq_emod_of_nonneg h.1];rfl
def aJ:dG:=orc1 (pN .u64) sp
theorem ok:OK 45 aJ:=(dZ E aF aE func45).oS rfl spec
end aOF
namespace Ac
def E:=mE [(45,aOF.aJ)] 15 [] [] []
def aF:=bd f17
theorem aU:Nk E aF:=nk
theorem start a b:aG E f17 aF [D.s (sc (int u64 a)),D.s (sc (int i64 b))]=letI A:=some [D.s (sc (bool false))];aO (0<=a/\a<18446744073709551616) (aD (decide (a%9223372036854775808<(9218868437227405312:Int))) (aD (decide (1<=b)) (some [D.s (sc (bool (decide (b<=2000))))]) A) A):=eJ aU
def sp(b p:Int):Prop×List D:=(0<=b/\b<18446744073709551616,[.s (.sc (.bool (decide (b%9223372036854775808<9218868437227405312/\1<=p/\p<=2000))))])
theorem spec:eR E f17 aF (pN .u64) (pN .i64) sp:=by
 intro b p h;refine(start b p).trans ((gP h).trans ?_);unfold sp
 by_cases c1:b%9223372036854775808<9218868437227405312
 ·rw[aR c1]
  by_cases c2:1<=p
  ·rw[aR c2]
   by_cases c3:p<=2000
   ·rw[decide_eq_true c3,decide_eq_true ⟨c1,c2,c3⟩]
   ·rw[decide_eq_false c3,decide_eq_false (fun h=>c3 h.2.2)]
  ·rw[aN c2,decide_eq_false (fun h=>c2 h.2.1)]
 ·rw[aN c1,decide_eq_false (fun h=>c1 h.1)]
def aJ:dG:=orc2 (pN .u64) (pN .i64) sp
theorem ok:OK 17 aJ:=(dZ E aF (aA aOF.ok aE) func17).jR rfl spec
end Ac
namespace Aa
def E:=mE [(52,qV.aJ)] 20 [] [] []
def aF:=bd f21
theorem aU:Nk E aF:=nk
theorem start a b c d e f g h i j k l:aG E f21 aF [D.agg [sc (bool a),ints u64 b,sc (int i64 c),sc (bool d),ints u64 e,sc (int i64 f)],D.agg [sc (bool g),ints u64 h,sc (int i64 i),sc (bool j),ints u64 k,sc (int i64 l)]]=aO (dR (a,b,c,d,e,f)/\dR (g,h,i,j,k,l)) (aC (qV.meet (a,b,c,d,e,f) (g,h,i,j,k,l)) fun m=>aD m (some [D.s (sc (bool true))]) (some [D.s (sc (bool false))])):=eJ aU
def sp(s t:vF):Prop×List D:=(dR s/\dR t,[.s (.sc (.bool (qV.meet s t)))])
theorem spec:eR E f21 aF tN tN sp:=by
 intro s t h;refine(start s.1 s.2.1 s.2.2.1 s.2.2.2.1 s.2.2.2.2.1 s.2.2.2.2.2 t.1 t.2.1 t.2.2.1 t.2.2.2.1 t.2.2.2.2.1 t.2.2.2.2.2).trans ((gP h).trans ?_);rw[aB];show aD (qV.meet s t) _ _=some [D.s (.sc (.bool (qV.meet s t)))];cases qV.meet s t <;> rfl
def aJ:dG:=orc2 tN tN sp
theorem ok:OK 21 aJ:=(dZ E aF (aA qV.ok aE) func21).jR rfl spec
end Aa
end W
namespace M
open Go AI W
theorem aCV(up:Bool){x y:Int×Int}{p:Int}(hp:1<=p/\p<=70000)(hx:Io x)(hy:Io y):jD (cP.sJ up p x y).1 (cP.sJ up p x y).2=true/\mU (bV (cP.sJ up p x y).1 (cP.sJ up p x y).2)/\bl (bV (cP.sJ up p x y).1 (cP.sJ up p x y).2).1.natAbs<=100000:=by
 obtain⟨h1,h2⟩:=aJU up (x:=x) (y:=y) hp hx.1 hy.1 hx.2 hy.2;refine⟨h1,⟨by omega,?_,fun h=>Ek h,fun h=>Ml h⟩,by omega⟩;unfold jD at h1;unfold bV;split
 ·dsimp only;omega
 ·rename_i Dq;rw[decide_eq_false Dq,Bool.false_or,Bool.and_eq_true]at h1;exact⟨of_decide_eq_true h1.1,of_decide_eq_true h1.2⟩
theorem aCK{fn b p:Int}(h:Real b)(hf:1<=fn/\fn<=2)(hp:1<=p/\p<=66000):Io (eE fn (aQ.kQ b) p).1/\Io (eE fn (aQ.kQ b) p).2:=by
 have N:=Ep (p:=p) h ⟨hf.1,by omega⟩ hp;obtain⟨c1,c2⟩:=N.bits;obtain⟨o1,o2⟩:=N.on hf.2;have vl:=N.vl;have P:=R.cY (-1101);have q:=R.pW (-1100);rw[show(-1100:Int)-1=-1101 by rfl]at q;have q2:=R.cN (show(-1300:Int)<=-1101 by decide);obtain⟨a1,a2,a3,a4,_,_,V0⟩:=Bp N.bx (p8 hp.1) N.v0;exact⟨Hg (by omega) (xV (by grind)) (by grind) (by grind),Hg (by omega) (xV (by grind)) (by grind) (by grind)⟩
structure bLV(b p:Int):Prop where
 s0:eQ.sE (aI.iJ 2 b p).1 (aI.iJ 2 b p).2≠0
 b1:bl (aI.iJ 1 b p).1.1.natAbs<=262144
 b2:bl (aI.iJ 1 b p).2.1.natAbs<=262144
 b3:bl (aI.iJ 2 b p).1.1.natAbs<=262144
 b4:bl (aI.iJ 2 b p).2.1.natAbs<=262144
 i1:jD (iQ.Jo (p+8) (aI.iJ 1 b p).1 (aI.iJ 1 b p).2 (aI.iJ 2 b p).1 (aI.iJ 2 b p).2).1 (iQ.Jo (p+8) (aI.iJ 1 b p).1 (aI.iJ 1 b p).2 (aI.iJ 2 b p).1 (aI.iJ 2 b p).2).2=true
 i2:jD (iQ.Jp (p+8) (aI.iJ 1 b p).1 (aI.iJ 1 b p).2 (aI.iJ 2 b p).1 (aI.iJ 2 b p).2).1 (iQ.Jp (p+8) (aI.iJ 1 b p).1 (aI.iJ 1 b p).2 (aI.iJ 2 b p).1 (aI.iJ 2 b p).2).2=true
 ok:dR (uF (bV (iQ.Jo (p+8) (aI.iJ 1 b p).1 (aI.iJ 1 b p).2 (aI.iJ 2 b p).1 (aI.iJ 2 b p).2).1 (iQ.Jo (p+8) (aI.iJ 1 b p).1 (aI.iJ 1 b p).2 (aI.iJ 2 b p).1 (aI.iJ 2 b p).2).2) (bV (iQ.Jp (p+8) (aI.iJ 1 b p).1 (aI.iJ 1 b p).2 (aI.iJ 2 b p).1 (aI.iJ 2 b p).2).1 (iQ.Jp (p+8) (aI.iJ 1 b p).1 (aI.iJ 1 b p).2 (aI.iJ 2 b p).1 (aI.iJ 2 b p).2).2))
 lo:R.qz (bV (iQ.Jo (p+8) (aI.iJ 1 b p).1 (aI.iJ 1 b p).2 (aI.iJ 2 b p).1 (aI.iJ 2 b p).2).1 (iQ.Jo (p+8) (aI.iJ 1 b p).1 (aI.iJ 1 b p).2 (aI.iJ 2 b p).1 (aI.iJ 2 b p).2).2)<=nQ 3 b
 hi:nQ 3 b<=R.qz (bV (iQ.Jp (p+8) (aI.iJ 1 b p).1 (aI.iJ 1 b p).2 (aI.iJ 2 b p).1 (aI.iJ 2 b p).2).1 (iQ.Jp (p+8) (aI.iJ 1 b p).1 (aI.iJ 1 b p).2 (aI.iJ 2 b p).1 (aI.iJ 2 b p).2).2)
theorem aQA{b p:Int}(hb:0<=b/\b<18446744073709551616)(h:b%9223372036854775808<9218868437227405312/\1<=p/\p<=2000):bLV b p:=by
 have c1:=nZ (fn:=1) h (by decide);have c2:=nZ (fn:=2) h (by decide)
 by_cases hz:b%9223372036854775808=0
 ·have e1:=zI c1 hz;have e2:=zI c2 hz;rw[if_neg (by decide)]at e1;rw[if_pos rfl]at e2;have z0:Io (0,0):=⟨by show bl 0<=_;rw[wV];omega,by decide,by decide⟩;have z1:Io (1,0):=⟨Nat.le_trans aAP (by decide),by decide,by decide⟩;have sg:eQ.sE (1,0) (1,0)=1:=Hj (by rw[nT];grind) Rat.le_refl;have eL:iQ.Jo (p+8) (0,0) (0,0) (1,0) (1,0)=cP.sJ false (p+8) (0,0) (1,0):=by
   unfold iQ.Jo iQ.aFF;rw[sg,aMU];rfl
  have eH:iQ.Jp (p+8) (0,0) (0,0) (1,0) (1,0)=cP.sJ true (p+8) (0,0) (1,0):=by
   unfold iQ.Jp iQ.aFG;rw[sg,aMU];rfl
  obtain⟨i1,p1,_⟩:=aCV false (p:=p+8) (by omega) z0 z1;obtain⟨i2,p2,_⟩:=aCV true (p:=p+8) (by omega) z0 z1;have q0:(0:Rat)*R.qz (1,0)=R.qz (0,0):=by rw[aTM];grind
  have n1:=(Cm false (x:=(0,0)) (y:=(1,0)) (p:=p+8) (q:=0) (by omega) (by decide) q0).1 rfl;have n2:=(Cm true (x:=(0,0)) (y:=(1,0)) (p:=p+8) (q:=0) (by omega) (by decide) q0).2 rfl;have v:nQ 3 b=0:=by unfold nQ;rw[if_pos hz,if_neg (by decide)]
  have o1:bl (1:Int).natAbs<=262144:=Nat.le_trans aAP (by decide);have o0:bl (0:Int).natAbs<=262144:=by show bl 0<=_;rw[wV];omega
  constructor
  all_goals try rw[e2]
  all_goals try rw[e1]
  ·rw[sg];decide
  all_goals try rw[eL]
  all_goals try rw[eH]
  ·exact o0
  ·exact o0
  ·exact o1
  ·exact o1
  ·exact i1
  ·exact i2
  ·exact Fp p1 p2 (lC.2 (by grind))
  ·rw[v];exact n1.1
  ·rw[v];exact n2.1
 ·obtain⟨hr,_,hp,z1⟩:=uP hb c1 hz;obtain⟨_,_,_,z2⟩:=uP hb c2 hz;have e1:=yC c1 z1;have e2:=yC c2 z2;have N1:=Ep (fn:=1) (p:=p) hr (by decide) hp;have N2:=Ep (fn:=2) (p:=p) hr (by decide) hp;obtain⟨y1,y2⟩:=aCK (fn:=1) hr (by decide) hp;obtain⟨y3,y4⟩:=aCK (fn:=2) hr (by decide) hp;have v:nQ 3 b=vx 3 b:=by unfold nQ;rw[if_neg hz]
  have hV:vx 3 b*R.fv 2 (R.qz (aQ.kQ b)) (kx b)=R.fv 1 (R.qz (aQ.kQ b)) (kx b):=by
   have n2:=N2.v0;unfold vx;have f1:R.fv 1 (R.qz (aQ.kQ b)) (kx b)=R.Sf (R.qz (aQ.kQ b)) (kx b):=rfl;have f2:R.fv 2 (R.qz (aQ.kQ b)) (kx b)=R.Cf (R.qz (aQ.kQ b)) (kx b):=rfl;have f3:R.fv 3 (R.qz (aQ.kQ b)) (kx b)=R.Sf (R.qz (aQ.kQ b)) (kx b)/R.Cf (R.qz (aQ.kQ b)) (kx b):=rfl;rw[f2]at n2;rw[f1,f2,f3];grind
  have C1:R.ab (R.fv 2 (R.qz (aQ.kQ b)) (kx b))<=1:=by
   obtain⟨o1,o2⟩:=N2.on (by decide);have lo:=N2.bx.lo;have hi:=N2.bx.hi;have m0:=N2.bx.m0;rw[R.dJ]at o1 o2 ⊢;constructor <;> grind
  obtain⟨s0,i1,i2,bx⟩:=aJT (p:=p+8) N1.bx N2.bx N1.v0 N2.v0 C1 (Rat.le_of_lt (R.cY _)) (p8 hp.1) hV (by omega) y1 y2 y3 y4;have lo:=bx.lo;have hi:=bx.hi;have m0:=bx.m0;have so:=bx.Ec;dsimp only at lo hi so;have b1:=y1.1;have b2:=y2.1;have b3:=y3.1;have b4:=y4.1;constructor
  all_goals try rw[e2]
  all_goals try rw[e1]
  ·exact s0
  ·omega
  ·omega
  ·omega
  ·omega
  ·exact i1
  ·exact i2
  ·exact so
  ·rw[v];grind
  ·rw[v];grind
end M
namespace W
open Go AI M
namespace LawTangent16
def E:=mE [(11,nY.aJ),(17,Ac.aJ),(13,aI.aJ),(23,iQ.aJ),(21,Aa.aJ)] 64 [62] [] []
def aF:=bd f9
theorem aU:Nk E aF:=nk
theorem start a b:aG E f9 aF [D.s (sc (int u64 a)),D.s (sc (int i64 b))]=letI K:=some [D.s (sc (bool false))];letI G:=aI.iJ 3 a b;letI F:=aI.iJ 2 a b;letI C:=aI.iJ 1 a b;aO True (aO (0<=a/\a<18446744073709551616) (aC (decide (a%9223372036854775808<(9218868437227405312:Int)/\1<=b/\b<=2000)) fun c=>aD (!c) (some [D.s (sc (bool true))]) (aO (0<=a/\a<18446744073709551616) (aC (isNeg C.fst.fst) fun d=>aC (M6.dg C.fst.fst.natAbs) fun e=>aC C.fst.snd fun f=>aC (isNeg C.snd.fst) fun g=>aC (M6.dg C.snd.fst.natAbs) fun h=>aC C.snd.snd fun i=>letI I:=(d,e,f,g,h,i);letI U:=dv (fO I);letI T:=dv (fL I);aC (bQ.pP 1 a b) fun j=>aO (0<=a/\a<18446744073709551616) (aC (isNeg F.fst.fst) fun k=>aC (M6.dg F.fst.fst.natAbs) fun l=>aC F.fst.snd fun m=>aC (isNeg F.snd.fst) fun n=>aC (M6.dg F.snd.fst.natAbs) fun o=>aC F.snd.snd fun p=>letI H:=(k,l,m,n,o,p);letI Q:=dv (fO H);letI P:=dv (fL H);letI B:=iQ.Jp (i64.wrap (b+8)) T U P Q;letI O:=bV B.fst B.snd;letI A:=iQ.Jo (i64.wrap (b+8)) T U P Q;letI N:=bV A.fst A.snd;aC (bQ.pP 2 a b) fun q=>aO (0<=a/\a<18446744073709551616) (aC (isNeg G.fst.fst) fun r=>aC (M6.dg G.fst.fst.natAbs) fun s=>aC G.fst.snd fun t=>aC (isNeg G.snd.fst) fun u=>aC (M6.dg G.snd.fst.natAbs) fun v=>aC G.snd.snd fun w=>aC (bQ.pP 3 a b) fun x=>aO (dR I/\dR H/\(1<=i64.wrap (b+8)/\i64.wrap (b+8)<=70000)/\eQ.sE P Q≠0/\(bl T.fst.natAbs<=262144/\bl U.fst.natAbs<=262144/\bl P.fst.natAbs<=262144/\bl Q.fst.natAbs<=262144)/\jD A.fst A.snd=true/\jD B.fst B.snd=true) (aC (isNeg N.fst) fun y=>aC (M6.dg N.fst.natAbs) fun z=>aC N.snd fun aa=>aC (isNeg O.fst) fun ab=>aC (M6.dg O.fst.natAbs) fun ac=>aC O.snd fun ad=>aD (j==0) (aD (q==0) (aD (x==0) (aO (dR (r,s,t,u,v,w)/\dR (y,z,aa,ab,ac,ad)) (aC (qV.meet (r,s,t,u,v,w) (y,z,aa,ab,ac,ad)) fun ae=>some [D.s (sc (bool ae))])) K) K) K))))))):=eJ aU
def sp(b p:Int):Prop×List D:=(0<=b/\b<18446744073709551616,[.s (.sc (.bool true))])
theorem spec:eR E f9 aF (pN .u64) (pN .i64) sp:=by
 intro b p hb;have hb:0<=b/\b<18446744073709551616:=hb;refine(start b p).trans ((gP trivial).trans ((gP hb).trans ?_));rw[aB]
 by_cases c1:b%9223372036854775808<9218868437227405312/\1<=p/\p<=2000
 ·have Q:=aQA hb c1;have e1:=nZ (fn:=1) c1 (by decide);have e2:=nZ (fn:=2) c1 (by decide);have e3:=nZ (fn:=3) c1 (by decide);have s1:=aI.yB (fn:=1) (p:=p) hb;have s2:=aI.yB (fn:=2) (p:=p) hb;have s3:=aI.yB (fn:=3) (p:=p) hb;have v3:=zJ hb e3;have w:i64.wrap (p+8)=p+8:=wrap_i64;obtain⟨q0,q1,q2,q3,q4,q5,q6,q7,q8,q9⟩:=Q;have m:qV.meet (uF (aI.iJ 3 b p).1 (aI.iJ 3 b p).2) _=true:=Kr (t:=uF _ _) (V:=nQ 3 b) (by rw[jU,jV];exact v3) (by rw[jU,jV];exact⟨q8,q9⟩);rw[decide_eq_true c1,Bool.not_true,bF,gP hb,aB,aB,aB,aB,aB,aB,aB,gP hb,aB,aB,aB,aB,aB,aB,aB,gP hb,aB,aB,aB,aB,aB,aB,aB,e1,e2,e3,w,aI.fold,aI.fold,aI.fold,jU,jV,jU,jV];refine(gP ⟨s1,s2,⟨by omega,by omega⟩,q0,⟨q1,q2,q3,q4⟩,q5,q6⟩).trans ?_;rw[aB,aB,aB,aB,aB,aB,cL rfl,cL rfl,cL rfl];refine(gP ⟨s3,q7⟩).trans ?_;rw[aB];refine congrArg (fun x=>some [D.s (S.sc (.bool x))]) ?_;exact m
 ·rw[decide_eq_false c1,cJB,bT];rfl
def aJ:dG:=orc2 (pN .u64) (pN .i64) sp
theorem fnok:qG prog E 9 f9 aF:=Hy oA mixed (iH _ rfl (aA nY.ok (aA Ac.ok (aA aI.ok (aA iQ.ok (aA Aa.ok aE))))) (lA)) func9 rfl rfl rfl
theorem ok:lT prog base.glob 9 aJ:=fnok.jR rfl spec
end LawTangent16
end W
end Go.Proofs.YtaajbopgknekmaaGreatDoor
end
