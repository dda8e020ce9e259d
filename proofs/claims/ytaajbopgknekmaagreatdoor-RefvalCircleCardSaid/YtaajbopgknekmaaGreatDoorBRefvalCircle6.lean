/- Contracts of functions and laws, for the claim on RefvalCircle. -/
import Derived.Test.YtaajbopgknekmaaGreatDoorBShared5
set_option linter.unusedVariables false
set_option linter.unusedSimpArgs false
set_option exponentiation.threshold 10000000
noncomputable section
open Go.IntKind(i8 i16 i32 i64 u8 u16 u32 u64)
open Go.Proofs.Tryz
open Rat renaming le_refl->cDM,le_of_lt->cCJ,intCast_add->cIY
open Nat renaming le_trans->bYC
open Int renaming toNat->cLC,toNat_natCast->cBF,eq_ofNat_of_zero_le->cCM
open Bool renaming not_false->cJB,and_eq_true->bXN,true_and->cAJ,false_and->cCU
namespace Go.Proofs.YtaajbopgknekmaaGreatDoor
open Go.Value(int bool slice)
open AI.S(sc ints)
namespace W
open Go AI M
namespace Uf
def E:=mE [(49,By.aJ)] 9 [] [] []
def aF:=bd f98
theorem aU:Nk E aF:=nk
theorem start a b c d e f:aG E f98 aF [D.agg [sc (bool a),ints u64 b,sc (int i64 c)],D.agg [sc (bool d),ints u64 e,sc (int i64 f)]]=aO (aW (a,b,c)/\aW (d,e,f)) (some [D.s (sc (bool (decide (0<dQ (dv (a,b,c)) (dv (d,e,f))))))]):=eJ aU
def sp(x y:iW):Prop×List D:=(aW x/\aW y,[.s (.sc (.bool (decide (0<dQ (dv x) (dv y)))))])
theorem spec:eR E f98 aF jE jE sp:=by
 intro x y h;exact(start x.1 x.2.1 x.2.2 y.1 y.2.1 y.2.2).trans (gP h)
def aJ:dG:=orc2 jE jE sp
theorem ok:OK 98 aJ:=(dZ E aF (aA By.ok aE) func98).jR rfl spec
end Uf
namespace jA
def E:=mE [(98,Uf.aJ)] 25 [] [(3,[1,4,5,12,13,14])] []
def aF:=bd f94
theorem aU:Nk E aF:=nk
def L3 a b c d e (f:Nat) (g:Nat->Bool) (h:Nat->List Int) (j:Nat->Int) k l:=nN E f94 aF 3 [vA (sc (Value.func (Fn.func 98) { toList:=[] } { toList:=[] })),bM 1 35 [bC a,sc (slice none 0 0),cV b],bM 2 35 [bC c,eF d,cV e],(A.v (V.one (L.rows 3 f fun i=>[sc (bool (g i)),ints u64 (h i),sc (int i64 (j i))])),none),bK k,bK l]
theorem start(a:iW)(b:iW):aG E f94 aF [D.rows 3 2 fun i=>[sc (bool (t2 a b i).fst),ints u64 (t2 a b i).snd.fst,sc (int i64 (t2 a b i).snd.snd)],D.s (sc (Value.func (Fn.func (98:FuncId)) #[] #[]))]=letI A:=t2 a b (cLC 0);jA.L3 false 0 A.fst A.snd.fst A.snd.snd 1 (fun i=>(t2 a b (cLC 1+i)).fst) (fun i=>(t2 a b (cLC 1+i)).snd.fst) (fun i=>(t2 a b (cLC 1+i)).snd.snd) 1 0:=eJ aU
theorem tK a b c d e f g h j k l:L3 a b c d e f g h j k l=letI A:=(g l.toNat,h l.toNat,j l.toNat);aD (decide (l<k)) (if 0<=l/\l<(f:Int)then aO (aW A/\aW (c,d,e)) (aD (decide (0<dQ (dv A) (dv (c,d,e)))) (jA.L3 a b (g l.toNat) (h l.toNat) (j l.toNat) f (fun i=>g i) (fun i=>h i) (fun i=>j i) k (i64.wrap (l+1))) (jA.L3 a b c d e f (fun i=>g i) (fun i=>h i) (fun i=>j i) k (i64.wrap (l+1))))else none) (some [D.agg [sc (bool c),ints u64 d,sc (int i64 e)]]):=lJ aU
def mT(f:Nat->iW):Nat->iW
 |0=>f 0
 |k+1=>bif decide (0<dQ (dv (f (k+1))) (dv (mT f k)))then f (k+1)else mT f k
def Hb(a:iW×iW):iW:=mT (t2 a.1 a.2) 1
def sp(a:iW×iW)(u:Unit):Prop×List D:=(aW a.1/\aW a.2,[.agg [.sc (.bool (Hb a).1),.ints .u64 (Hb a).2.1,.sc (.int .i64 (Hb a).2.2)]])
theorem zQ{f:Nat->iW}{n:Nat}(hf:∀i,i<n->aW (f i)):∀k,k<n->aW (mT f k)
 |0,h=>hf 0 h
 |k+1,h=>by
  unfold mT;cases decide (0<dQ (dv (f (k+1))) (dv (mT f k)))
  ·exact zQ hf k (by omega)
  ·exact hf (k+1) h
theorem L(b0:Bool)(x1:Int)(n:Nat)(f:Nat->iW)(hn:n<1000)(hf:∀i,i<n+1->aW (f i)):∀d k:Nat,k+d=n->L3 b0 x1 (mT f k).1 (mT f k).2.1 (mT f k).2.2 n (fun i=>(f (1+i)).1) (fun i=>(f (1+i)).2.1) (fun i=>(f (1+i)).2.2) (n:Int) (k:Int)=some [.agg [.sc (.bool (mT f n).1),.ints .u64 (mT f n).2.1,.sc (.int .i64 (mT f n).2.2)]]
 |0,k,h=>by
  obtain rfl:k=n:=by omega
  rw[tK,aN]
 |d+1,k,h=>by
  have e:i64.wrap ((k:Int)+1)=((k+1:Nat):Int):=by rw[wrap_i64];omega
  have r:=L b0 x1 n f hn hf d (k+1) (by omega);have g1:aW (f (1+k)):=hf _ (by omega);have g2:aW (mT f k):=zQ hf k (by omega);have c1:f (k+1)=f (1+k):=by rw[Nat.add_comm]
  rw[tK,aR,aT,cBF,gP ⟨g1,g2⟩,e]
  by_cases hc:0<dQ (dv (f (k+1))) (dv (mT f k))
  ·have hb:mT f (k+1)=f (1+k):=by
    rw[<-c1];show(bif decide (0<dQ (dv (f (k+1))) (dv (mT f k)))then f (k+1)else mT f k)=_;rw[decide_eq_true hc];rfl
   rw[c1]at hc;rw[aR hc];rw[hb]at r;exact r
  ·have hb:mT f (k+1)=mT f k:=by
    show(bif decide (0<dQ (dv (f (k+1))) (dv (mT f k)))then f (k+1)else mT f k)=_;rw[decide_eq_false hc];rfl
   rw[c1]at hc;rw[aN hc];rw[hb]at r;exact r
theorem all{a:iW×iW}(h:aW a.1/\aW a.2):∀i,i<2->aW (t2 a.1 a.2 i):=fun i hi=>by
  obtain rfl |rfl:i=0\/i=1:=by omega
  ·exact h.1
  ·exact h.2
theorem Nu{a:iW×iW}(h:aW a.1/\aW a.2):aW (Hb a):=zQ (n:=2) (all h) 1 (by decide)
theorem Nv(a:iW×iW):dv (Hb a)=aDX (dv a.1) (dv a.2):=by
 show dv (bif decide (0<dQ (dv a.2) (dv a.1))then a.2 else a.1)=bif decide (0<dQ (dv a.2) (dv a.1))then dv a.2 else dv a.1
 cases decide (0<dQ (dv a.2) (dv a.1)) <;> rfl
theorem spec:eR E f94 aF (aHI (.pair sB (.pair (sI .u64) (sN .i64))) (false,[],0)) (pFn 98) sp:=fun a u h =>
 (start a.1 a.2).trans (L false 0 1 (t2 a.1 a.2) (by decide) (all h) 1 0 (by decide))
def aJ:dG:=orc2 (aHI (.pair sB (.pair (sI .u64) (sN .i64))) (false,[],0)) (pFn 98) sp
theorem ok:OK 94 aJ:=(dZ E aF (aA Uf.ok aE) func94).jR rfl spec
end jA
namespace Oq
def E:=mE [(94,jA.aJ)] 5 [] [] []
def aF:=bd f60
theorem aU:Nk E aF:=nk
theorem start(a:iW)(b:iW):aG E f60 aF [D.rows 3 2 fun i=>[sc (bool (t2 a b i).fst),ints u64 (t2 a b i).snd.fst,sc (int i64 (t2 a b i).snd.snd)]]=letI C:=t2 a b 1;letI B:=t2 a b 0;letI F:=(B.fst,B.snd.fst,B.snd.snd);letI A:=jA.Hb (F,C.fst,C.snd.fst,C.snd.snd);aO (aW F/\aW (C.fst,C.snd.fst,C.snd.snd)) (some [D.agg [sc (bool A.fst),ints u64 A.snd.fst,sc (int i64 A.snd.snd)]]):=eJ aU
def sp(a:iW×iW):Prop×List D:=(aW a.1/\aW a.2,[.agg [.sc (.bool (jA.Hb a).1),.ints .u64 (jA.Hb a).2.1,.sc (.int .i64 (jA.Hb a).2.2)]])
theorem spec:iD E f60 aF (aHI (.pair sB (.pair (sI .u64) (sN .i64))) (false,[],0)) sp:=fun a h =>
 (start a.1 a.2).trans (gP h)
def aJ:dG:=orc1 (aHI (.pair sB (.pair (sI .u64) (sN .i64))) (false,[],0)) sp
theorem ok:OK 60 aJ:=(dZ E aF (aA jA.ok aE) func60).oS rfl spec
end Oq
namespace Ue
def E:=mE [(49,By.aJ)] 9 [] [] []
def aF:=bd f95
theorem aU:Nk E aF:=nk
theorem start a b c d e f:aG E f95 aF [D.agg [sc (bool a),ints u64 b,sc (int i64 c)],D.agg [sc (bool d),ints u64 e,sc (int i64 f)]]=aO (aW (a,b,c)/\aW (d,e,f)) (some [D.s (sc (bool (decide (dQ (dv (a,b,c)) (dv (d,e,f))<0))))]):=eJ aU
def sp(x y:iW):Prop×List D:=(aW x/\aW y,[.s (.sc (.bool (decide (dQ (dv x) (dv y)<0))))])
theorem spec:eR E f95 aF jE jE sp:=by
 intro x y h;exact(start x.1 x.2.1 x.2.2 y.1 y.2.1 y.2.2).trans (gP h)
def aJ:dG:=orc2 jE jE sp
theorem ok:OK 95 aJ:=(dZ E aF (aA By.ok aE) func95).jR rfl spec
end Ue
namespace jK
def E:=mE [(95,Ue.aJ)] 25 [] [(3,[1,4,5,12,13,14])] []
def aF:=bd f94
theorem aU:Nk E aF:=nk
def L3 a b c d e (f:Nat) (g:Nat->Bool) (h:Nat->List Int) (j:Nat->Int) k l:=nN E f94 aF 3 [vA (sc (Value.func (Fn.func 95) { toList:=[] } { toList:=[] })),bM 1 35 [bC a,sc (slice none 0 0),cV b],bM 2 35 [bC c,eF d,cV e],(A.v (V.one (L.rows 3 f fun i=>[sc (bool (g i)),ints u64 (h i),sc (int i64 (j i))])),none),bK k,bK l]
theorem start(a:iW)(b:iW):aG E f94 aF [D.rows 3 2 fun i=>[sc (bool (t2 a b i).fst),ints u64 (t2 a b i).snd.fst,sc (int i64 (t2 a b i).snd.snd)],D.s (sc (Value.func (Fn.func (95:FuncId)) #[] #[]))]=letI A:=t2 a b (cLC 0);jK.L3 false 0 A.fst A.snd.fst A.snd.snd 1 (fun i=>(t2 a b (cLC 1+i)).fst) (fun i=>(t2 a b (cLC 1+i)).snd.fst) (fun i=>(t2 a b (cLC 1+i)).snd.snd) 1 0:=eJ aU
theorem tK a b c d e f g h j k l:L3 a b c d e f g h j k l=letI A:=(g l.toNat,h l.toNat,j l.toNat);aD (decide (l<k)) (if 0<=l/\l<(f:Int)then aO (aW A/\aW (c,d,e)) (aD (decide (dQ (dv A) (dv (c,d,e))<0)) (jK.L3 a b (g l.toNat) (h l.toNat) (j l.toNat) f (fun i=>g i) (fun i=>h i) (fun i=>j i) k (i64.wrap (l+1))) (jK.L3 a b c d e f (fun i=>g i) (fun i=>h i) (fun i=>j i) k (i64.wrap (l+1))))else none) (some [D.agg [sc (bool c),ints u64 d,sc (int i64 e)]]):=lJ aU
def mT(f:Nat->iW):Nat->iW
 |0=>f 0
 |k+1=>bif decide (dQ (dv (f (k+1))) (dv (mT f k))<0)then f (k+1)else mT f k
def Hb(a:iW×iW):iW:=mT (t2 a.1 a.2) 1
def sp(a:iW×iW)(u:Unit):Prop×List D:=(aW a.1/\aW a.2,[.agg [.sc (.bool (Hb a).1),.ints .u64 (Hb a).2.1,.sc (.int .i64 (Hb a).2.2)]])
theorem zQ{f:Nat->iW}{n:Nat}(hf:∀i,i<n->aW (f i)):∀k,k<n->aW (mT f k)
 |0,h=>hf 0 h
 |k+1,h=>by
  unfold mT;cases decide (dQ (dv (f (k+1))) (dv (mT f k))<0)
  ·exact zQ hf k (by omega)
  ·exact hf (k+1) h
theorem L(b0:Bool)(x1:Int)(n:Nat)(f:Nat->iW)(hn:n<1000)(hf:∀i,i<n+1->aW (f i)):∀d k:Nat,k+d=n->L3 b0 x1 (mT f k).1 (mT f k).2.1 (mT f k).2.2 n (fun i=>(f (1+i)).1) (fun i=>(f (1+i)).2.1) (fun i=>(f (1+i)).2.2) (n:Int) (k:Int)=some [.agg [.sc (.bool (mT f n).1),.ints .u64 (mT f n).2.1,.sc (.int .i64 (mT f n).2.2)]]
 |0,k,h=>by
  obtain rfl:k=n:=by omega
  rw[tK,aN]
 |d+1,k,h=>by
  have e:i64.wrap ((k:Int)+1)=((k+1:Nat):Int):=by rw[wrap_i64];omega
  have r:=L b0 x1 n f hn hf d (k+1) (by omega);have g1:aW (f (1+k)):=hf _ (by omega);have g2:aW (mT f k):=zQ hf k (by omega);have c1:f (k+1)=f (1+k):=by rw[Nat.add_comm]
  rw[tK,aR,aT,cBF,gP ⟨g1,g2⟩,e]
  by_cases hc:dQ (dv (f (k+1))) (dv (mT f k))<0
  ·have hb:mT f (k+1)=f (1+k):=by
    rw[<-c1];show(bif decide (dQ (dv (f (k+1))) (dv (mT f k))<0)then f (k+1)else mT f k)=_;rw[decide_eq_true hc];rfl
   rw[c1]at hc;rw[aR hc];rw[hb]at r;exact r
  ·have hb:mT f (k+1)=mT f k:=by
    show(bif decide (dQ (dv (f (k+1))) (dv (mT f k))<0)then f (k+1)else mT f k)=_;rw[decide_eq_false hc];rfl
   rw[c1]at hc;rw[aN hc];rw[hb]at r;exact r
theorem all{a:iW×iW}(h:aW a.1/\aW a.2):∀i,i<2->aW (t2 a.1 a.2 i):=fun i hi=>by
  obtain rfl |rfl:i=0\/i=1:=by omega
  ·exact h.1
  ·exact h.2
theorem Nu{a:iW×iW}(h:aW a.1/\aW a.2):aW (Hb a):=zQ (n:=2) (all h) 1 (by decide)
theorem Nv(a:iW×iW):dv (Hb a)=aHJ (dv a.1) (dv a.2):=by
 show dv (bif decide (dQ (dv a.2) (dv a.1)<0)then a.2 else a.1)=bif decide (dQ (dv a.2) (dv a.1)<0)then dv a.2 else dv a.1
 cases decide (dQ (dv a.2) (dv a.1)<0) <;> rfl
theorem spec:eR E f94 aF (aHI (.pair sB (.pair (sI .u64) (sN .i64))) (false,[],0)) (pFn 95) sp:=fun a u h =>
 (start a.1 a.2).trans (L false 0 1 (t2 a.1 a.2) (by decide) (all h) 1 0 (by decide))
def aJ:dG:=orc2 (aHI (.pair sB (.pair (sI .u64) (sN .i64))) (false,[],0)) (pFn 95) sp
theorem ok:OK 94 aJ:=(dZ E aF (aA Ue.ok aE) func94).jR rfl spec
end jK
namespace Oo
def E:=mE [(94,jK.aJ)] 5 [] [] []
def aF:=bd f58
theorem aU:Nk E aF:=nk
theorem start(a:iW)(b:iW):aG E f58 aF [D.rows 3 2 fun i=>[sc (bool (t2 a b i).fst),ints u64 (t2 a b i).snd.fst,sc (int i64 (t2 a b i).snd.snd)]]=letI C:=t2 a b 1;letI B:=t2 a b 0;letI F:=(B.fst,B.snd.fst,B.snd.snd);letI A:=jK.Hb (F,C.fst,C.snd.fst,C.snd.snd);aO (aW F/\aW (C.fst,C.snd.fst,C.snd.snd)) (some [D.agg [sc (bool A.fst),ints u64 A.snd.fst,sc (int i64 A.snd.snd)]]):=eJ aU
def sp(a:iW×iW):Prop×List D:=(aW a.1/\aW a.2,[.agg [.sc (.bool (jK.Hb a).1),.ints .u64 (jK.Hb a).2.1,.sc (.int .i64 (jK.Hb a).2.2)]])
theorem spec:iD E f58 aF (aHI (.pair sB (.pair (sI .u64) (sN .i64))) (false,[],0)) sp:=fun a h =>
 (start a.1 a.2).trans (gP h)
def aJ:dG:=orc1 (aHI (.pair sB (.pair (sI .u64) (sN .i64))) (false,[],0)) sp
theorem ok:OK 58 aJ:=(dZ E aF (aA jK.ok aE) func58).oS rfl spec
end Oo
namespace qV
def E:=mE [(46,tI.aJ),(60,Oq.aJ),(58,Oo.aJ),(49,By.aJ),(89,Ol.aJ)] 39 [] [(3,[2,3,4])] [3]
def aF:=bd f52
theorem aU:Nk E aF:=nk
def J3 a b c d e f g h i j k l m n o p:=lE E f52 aF 3 [bM 0 37 [bC a,eF b,cV c,bC d,eF e,cV f],bM 1 37 [bC g,eF h,cV i,bC j,eF k,cV l],bM 2 37 [bC m,sc (slice none 0 0),cV n,bC o,sc (slice none 0 0),cV p]]
theorem start a b c d e f g h i j k l:aG E f52 aF [D.agg [sc (bool a),ints u64 b,sc (int i64 c),sc (bool d),ints u64 e,sc (int i64 f)],D.agg [sc (bool g),ints u64 h,sc (int i64 i),sc (bool j),ints u64 k,sc (int i64 l)]]=aO (dR (a,b,c,d,e,f)) (aO (dR (g,h,i,j,k,l)) (qV.J3 a b c d e f g h i j k l false 0 false 0)):=eJ aU
theorem fB a b c d e f g h i j k l m n o p:J3 a b c d e f g h i j k l m n o p=letI F:=bool false;letI C:=int i64 0;letI B:=jK.Hb ((d,e,f),j,k,l);letI A:=jA.Hb ((a,b,c),g,h,i);aO (aW (a,b,c)/\aW (g,h,i)) (aC A.fst fun q=>aC A.snd.fst fun r=>aC A.snd.snd fun s=>aO (aW (d,e,f)/\aW (j,k,l)) (aC B.fst fun t=>aC B.snd.fst fun u=>aC B.snd.snd fun v=>aO (aW (q,r,s)/\aW (t,u,v)) (aC (dQ (dv (q,r,s)) (dv (t,u,v))) fun w=>aD (decide (0<w)) (some [D.agg [sc F,sc (slice none 0 0),sc C,sc F,sc (slice none 0 0),sc C],D.s (sc F),D.s (sc C)]) (aO (r.length<=1099511627776/\u.length<=1099511627776) (some [D.agg [sc (bool q),ints u64 r,sc (int i64 s),sc (bool t),ints u64 u,sc (int i64 v)],D.s (sc (bool true)),D.s (sc C)]))))):=cJ aU
def meet(s t:vF):Bool:=!decide (0<dQ (aDX (dv (fL s)) (dv (fL t))) (aHJ (dv (fO s)) (dv (fO t))))
def aOO(s t:vF):iW:=jA.Hb (fL s,fL t)
def aOP(s t:vF):iW:=jK.Hb (fO s,fO t)
def sp(s t:vF):Prop×List D:=(dR s/\dR t,[.agg [.sc (.bool (bif meet s t then(aOO s t).1 else false)),.ints .u64 (bif meet s t then(aOO s t).2.1 else []),.sc (.int .i64 (bif meet s t then(aOO s t).2.2 else 0)),.sc (.bool (bif meet s t then(aOP s t).1 else false)),.ints .u64 (bif meet s t then(aOP s t).2.1 else []),.sc (.int .i64 (bif meet s t then(aOP s t).2.2 else 0))],.s (.sc (.bool (meet s t))),.s (.sc (.int .i64 0))])
theorem spec:Ok E f52 aF tN tN sp:=by
 rintro s t ⟨h1,h2⟩;have e:=start s.1 s.2.1 s.2.2.1 s.2.2.2.1 s.2.2.2.2.1 s.2.2.2.2.2 t.1 t.2.1 t.2.2.1 t.2.2.2.1 t.2.2.2.2.1 t.2.2.2.2.2;have g1:aW (aOO s t):=jA.Nu ⟨h1.1,h2.1⟩;have g2:aW (aOP s t):=jK.Nu ⟨h1.2.1,h2.2.1⟩;have l1:=g1.len;have l2:=g2.len;have v1:dv (aOO s t)=aDX (dv (fL s)) (dv (fL t)):=jA.Nv (fL s,fL t);have v2:dv (aOP s t)=aHJ (dv (fO s)) (dv (fO t)):=jK.Nv (fO s,fO t);have x1:jA.Hb ((s.1,s.2.1,s.2.2.1),t.1,t.2.1,t.2.2.1)=aOO s t:=rfl;have x2:jK.Hb ((s.2.2.2.1,s.2.2.2.2.1,s.2.2.2.2.2),t.2.2.2.1,t.2.2.2.2.1,t.2.2.2.2.2)=aOP s t:=rfl;have y1:((aOO s t).1,(aOO s t).2.1,(aOO s t).2.2)=aOO s t:=rfl;have y2:((aOP s t).1,(aOP s t).2.1,(aOP s t).2.2)=aOP s t:=rfl;rw[gP h1,gP h2,fB,gP ⟨h1.1,h2.1⟩]at e;simp only[aB,x1,x2,y1,y2,v1,v2]at e;rw[gP ⟨h1.2.1,h2.2.1⟩,gP ⟨g1,g2⟩]at e;unfold sp
 by_cases c:0<dQ (aDX (dv (fL s)) (dv (fL t))) (aHJ (dv (fO s)) (dv (fO t)))
 ·have hm:meet s t=false:=by unfold meet;rw[decide_eq_true c];rfl
  rw[aR c]at e;refine⟨_,e,?_⟩;dsimp only;rw[hm];exact .cons (De.agg (.cons (Ew.refl _) (.cons (Ew.nil _) (.cons (Ew.refl _) (.cons (Ew.refl _) (.cons (Ew.nil _) (Ae.refl _))))))) (iV.refl _)
 ·have hm:meet s t=true:=by unfold meet;rw[decide_eq_false c];rfl
  rw[aN c,gP ⟨by omega,by omega⟩]at e;refine⟨_,e,?_⟩;dsimp only;rw[hm];exact iV.refl _
def aJ:dG:=orc2 tN tN sp
theorem ok:OK 52 aJ:=(dZ E aF (aA tI.ok (aA Oq.ok (aA Oo.ok (aA By.ok (aA Ol.ok aE))))) func52).aHY rfl spec
end qV
end W
namespace M
open Go AI W
theorem Kr{s t:vF}{V:Rat}(h1:R.qz (dv (fL s))<=V/\V<=R.qz (dv (fO s)))(h2:R.qz (dv (fL t))<=V/\V<=R.qz (dv (fO t))):qV.meet s t=true:=by
 unfold qV.meet;rw[decide_eq_false,cJB];rw[uY];have a:R.qz (aDX (dv (fL s)) (dv (fL t)))<=V:=by rcases aLP (dv (fL s)) (dv (fL t))with h |h <;> rw[h] <;> grind
 have b:V<=R.qz (aHJ (dv (fO s)) (dv (fO t))):=by rcases aKJ (dv (fO s)) (dv (fO t))with h |h <;> rw[h] <;> grind
 grind
theorem nZ{fn b p:Int}(h:b%9223372036854775808<9218868437227405312/\1<=p/\p<=2000)(hf:1<=fn/\fn<=3):bQ.pP fn b p=0:=by
 rw[tP,bG,bG,bG,bG,if_pos h.1]
theorem aIB{fn b p:Int}(h:bQ.pP fn b p=0):bQ.pP fn b 8=0:=by
 rw[tP]at h ⊢;split at h
 ·omega
 ·rename_i c1;rw[if_neg c1];split at h
  ·omega
  ·rename_i c2;rw[if_neg c2,bG,bG];split at h
   ·omega
   ·split at h
    ·omega
    ·exact h
theorem aIS{fn b p:Int}(hb:0<=b/\b<18446744073709551616)(c:bQ.pP fn b p=0):bY.jG (aI.iJ fn b p).2 (-(aI.iJ fn b p).1.1,(aI.iJ fn b p).1.2)=true/\vY.aHH (aI.iJ fn b p).1 (aI.iJ fn b p).2 p=true:=by
 have pt:∀a:Int×Int,vY.aHH a a p=true:=by
  intro a;unfold vY.aHH;rw[beq_iff_eq.2 (Da.2 rfl)];rfl
 by_cases hz:b%9223372036854775808=0
 ·rw[zI c hz]
  by_cases f:fn=2
  ·rw[if_pos f];exact⟨by decide +kernel,pt _⟩
  ·rw[if_neg f];exact⟨by decide +kernel,pt _⟩
 ·obtain⟨hr,hf,hp,z⟩:=uP hb c hz;rw[yC c z];have N:=Ep (p:=p) hr hf hp;exact⟨N.ok,N.thin⟩
end M
namespace W
open Go AI M
namespace aOF
def E:=mE [] 6 [] [] []
def aF:=bd f45
theorem aU:Nk E aF:=nk
theorem start a:aG E f45 aF [D.s (sc (int u64 a))]=some [D.s (sc (bool (decide (a.tmod 9223372036854775808<(9218868437227405312:Int)))))]:=eJ aU
def sp(b:Int):Prop×List D:=(0<=b/\b<18446744073709551616,[.s (.sc (.bool (decide (b%9223372036854775808<9218868437227405312))))])
theorem spec:iD E f45 aF (pN .u64) sp:=by
 intro b h;have h:0<=b/\b<18446744073709551616:=h;refine(start b).trans ?_;rw[Int.tmod_eq_emod_of_nonneg h.1];rfl
def aJ:dG:=orc1 (pN .u64) sp
theorem ok:OK 45 aJ:=(dZ E aF aE func45).oS rfl spec
end aOF
namespace Ac
def E:=mE [(45,aOF.aJ)] 15 [] [] []
def aF:=bd f17
theorem aU:Nk E aF:=nk
theorem start a b:aG E f17 aF [D.s (sc (int u64 a)),D.s (sc (int i64 b))]=letI A:=some [D.s (sc (bool false))];aO (0<=a/\a<18446744073709551616) (aD (decide (a%9223372036854775808<(9218868437227405312:Int))) (aD (decide (1<=b)) (some [D.s (sc (bool (decide (b<=2000))))]) A) A):=eJ aU
def sp(b p:Int):Prop×List D:=(0<=b/\b<18446744073709551616,[.s (.sc (.bool (decide (b%9223372036854775808<9218868437227405312/\1<=p/\p<=2000))))])
theorem spec:eR E f17 aF (pN .u64) (pN .i64) sp:=by
 intro b p h;refine(start b p).trans ((gP h).trans ?_);unfold sp
 by_cases c1:b%9223372036854775808<9218868437227405312
 ·rw[aR c1]
  by_cases c2:1<=p
  ·rw[aR c2]
   by_cases c3:p<=2000
   ·rw[decide_eq_true c3,decide_eq_true ⟨c1,c2,c3⟩]
   ·rw[decide_eq_false c3,decide_eq_false (fun h=>c3 h.2.2)]
  ·rw[aN c2,decide_eq_false (fun h=>c2 h.2.1)]
 ·rw[aN c1,decide_eq_false (fun h=>c1 h.1)]
def aJ:dG:=orc2 (pN .u64) (pN .i64) sp
theorem ok:OK 17 aJ:=(dZ E aF (aA aOF.ok aE) func17).jR rfl spec
end Ac
end W
namespace M
open Go AI W
theorem aCV(up:Bool){x y:Int×Int}{p:Int}(hp:1<=p/\p<=70000)(hx:Io x)(hy:Io y):jD (cP.sJ up p x y).1 (cP.sJ up p x y).2=true/\mU (bV (cP.sJ up p x y).1 (cP.sJ up p x y).2)/\bl (bV (cP.sJ up p x y).1 (cP.sJ up p x y).2).1.natAbs<=100000:=by
 obtain⟨h1,h2⟩:=aJU up (x:=x) (y:=y) hp hx.1 hy.1 hx.2 hy.2;refine⟨h1,⟨by omega,?_,fun h=>Ek h,fun h=>Ml h⟩,by omega⟩;unfold jD at h1;unfold bV;split
 ·dsimp only;omega
 ·rename_i Dq;rw[decide_eq_false Dq,Bool.false_or,bXN]at h1;exact⟨of_decide_eq_true h1.1,of_decide_eq_true h1.2⟩
theorem aCK{fn b p:Int}(h:Real b)(hf:1<=fn/\fn<=2)(hp:1<=p/\p<=66000):Io (eE fn (aQ.kQ b) p).1/\Io (eE fn (aQ.kQ b) p).2:=by
 have N:=Ep (p:=p) h ⟨hf.1,by omega⟩ hp;obtain⟨c1,c2⟩:=N.bits;obtain⟨o1,o2⟩:=N.on hf.2;have vl:=N.vl;have P:=R.cY (-1101);have q:=R.pW (-1100);rw[show(-1100:Int)-1=-1101 by rfl]at q;have q2:=R.cN (show(-1300:Int)<=-1101 by decide);obtain⟨a1,a2,a3,a4,_,_,V0⟩:=Bp N.bx (p8 hp.1) N.v0;exact⟨Hg (by omega) (xV (by grind)) (by grind) (by grind),Hg (by omega) (xV (by grind)) (by grind) (by grind)⟩
structure bLV(b p:Int):Prop where
 s0:eQ.sE (aI.iJ 2 b p).1 (aI.iJ 2 b p).2≠0
 b1:bl (aI.iJ 1 b p).1.1.natAbs<=262144
 b2:bl (aI.iJ 1 b p).2.1.natAbs<=262144
 b3:bl (aI.iJ 2 b p).1.1.natAbs<=262144
 b4:bl (aI.iJ 2 b p).2.1.natAbs<=262144
 i1:jD (iQ.Jo (p+8) (aI.iJ 1 b p).1 (aI.iJ 1 b p).2 (aI.iJ 2 b p).1 (aI.iJ 2 b p).2).1 (iQ.Jo (p+8) (aI.iJ 1 b p).1 (aI.iJ 1 b p).2 (aI.iJ 2 b p).1 (aI.iJ 2 b p).2).2=true
 i2:jD (iQ.Jp (p+8) (aI.iJ 1 b p).1 (aI.iJ 1 b p).2 (aI.iJ 2 b p).1 (aI.iJ 2 b p).2).1 (iQ.Jp (p+8) (aI.iJ 1 b p).1 (aI.iJ 1 b p).2 (aI.iJ 2 b p).1 (aI.iJ 2 b p).2).2=true
 ok:dR (uF (bV (iQ.Jo (p+8) (aI.iJ 1 b p).1 (aI.iJ 1 b p).2 (aI.iJ 2 b p).1 (aI.iJ 2 b p).2).1 (iQ.Jo (p+8) (aI.iJ 1 b p).1 (aI.iJ 1 b p).2 (aI.iJ 2 b p).1 (aI.iJ 2 b p).2).2) (bV (iQ.Jp (p+8) (aI.iJ 1 b p).1 (aI.iJ 1 b p).2 (aI.iJ 2 b p).1 (aI.iJ 2 b p).2).1 (iQ.Jp (p+8) (aI.iJ 1 b p).1 (aI.iJ 1 b p).2 (aI.iJ 2 b p).1 (aI.iJ 2 b p).2).2))
 lo:R.qz (bV (iQ.Jo (p+8) (aI.iJ 1 b p).1 (aI.iJ 1 b p).2 (aI.iJ 2 b p).1 (aI.iJ 2 b p).2).1 (iQ.Jo (p+8) (aI.iJ 1 b p).1 (aI.iJ 1 b p).2 (aI.iJ 2 b p).1 (aI.iJ 2 b p).2).2)<=nQ 3 b
 hi:nQ 3 b<=R.qz (bV (iQ.Jp (p+8) (aI.iJ 1 b p).1 (aI.iJ 1 b p).2 (aI.iJ 2 b p).1 (aI.iJ 2 b p).2).1 (iQ.Jp (p+8) (aI.iJ 1 b p).1 (aI.iJ 1 b p).2 (aI.iJ 2 b p).1 (aI.iJ 2 b p).2).2)
theorem aQA{b p:Int}(hb:0<=b/\b<18446744073709551616)(h:b%9223372036854775808<9218868437227405312/\1<=p/\p<=2000):bLV b p:=by
 have c1:=nZ (fn:=1) h (by decide);have c2:=nZ (fn:=2) h (by decide)
 by_cases hz:b%9223372036854775808=0
 ·have e1:=zI c1 hz;have e2:=zI c2 hz;rw[if_neg (by decide)]at e1;rw[if_pos rfl]at e2;have z0:Io (0,0):=⟨by show bl 0<=_;rw[wV];omega,by decide,by decide⟩;have z1:Io (1,0):=⟨bYC aAP (by decide),by decide,by decide⟩;have sg:eQ.sE (1,0) (1,0)=1:=Hj (by rw[nT];grind) cDM;have eL:iQ.Jo (p+8) (0,0) (0,0) (1,0) (1,0)=cP.sJ false (p+8) (0,0) (1,0):=by
   unfold iQ.Jo iQ.aFF;rw[sg,aMU];rfl
  have eH:iQ.Jp (p+8) (0,0) (0,0) (1,0) (1,0)=cP.sJ true (p+8) (0,0) (1,0):=by
   unfold iQ.Jp iQ.aFG;rw[sg,aMU];rfl
  obtain⟨i1,p1,_⟩:=aCV false (p:=p+8) (by omega) z0 z1;obtain⟨i2,p2,_⟩:=aCV true (p:=p+8) (by omega) z0 z1;have q0:(0:Rat)*R.qz (1,0)=R.qz (0,0):=by rw[aTM];grind
  have n1:=(Cm false (x:=(0,0)) (y:=(1,0)) (p:=p+8) (q:=0) (by omega) (by decide) q0).1 rfl;have n2:=(Cm true (x:=(0,0)) (y:=(1,0)) (p:=p+8) (q:=0) (by omega) (by decide) q0).2 rfl;have v:nQ 3 b=0:=by unfold nQ;rw[if_pos hz,if_neg (by decide)]
  have o1:bl (1:Int).natAbs<=262144:=bYC aAP (by decide);have o0:bl (0:Int).natAbs<=262144:=by show bl 0<=_;rw[wV];omega
  constructor
  all_goals try rw[e2]
  all_goals try rw[e1]
  ·rw[sg];decide
  all_goals try rw[eL]
  all_goals try rw[eH]
  ·exact o0
  ·exact o0
  ·exact o1
  ·exact o1
  ·exact i1
  ·exact i2
  ·exact Fp p1 p2 (lC.2 (by grind))
  ·rw[v];exact n1.1
  ·rw[v];exact n2.1
 ·obtain⟨hr,_,hp,z1⟩:=uP hb c1 hz;obtain⟨_,_,_,z2⟩:=uP hb c2 hz;have e1:=yC c1 z1;have e2:=yC c2 z2;have N1:=Ep (fn:=1) (p:=p) hr (by decide) hp;have N2:=Ep (fn:=2) (p:=p) hr (by decide) hp;obtain⟨y1,y2⟩:=aCK (fn:=1) hr (by decide) hp;obtain⟨y3,y4⟩:=aCK (fn:=2) hr (by decide) hp;have v:nQ 3 b=vx 3 b:=by unfold nQ;rw[if_neg hz]
  have hV:vx 3 b*R.fv 2 (R.qz (aQ.kQ b)) (kx b)=R.fv 1 (R.qz (aQ.kQ b)) (kx b):=by
   have n2:=N2.v0;unfold vx;have f1:R.fv 1 (R.qz (aQ.kQ b)) (kx b)=R.Sf (R.qz (aQ.kQ b)) (kx b):=rfl;have f2:R.fv 2 (R.qz (aQ.kQ b)) (kx b)=R.Cf (R.qz (aQ.kQ b)) (kx b):=rfl;have f3:R.fv 3 (R.qz (aQ.kQ b)) (kx b)=R.Sf (R.qz (aQ.kQ b)) (kx b)/R.Cf (R.qz (aQ.kQ b)) (kx b):=rfl;rw[f2]at n2;rw[f1,f2,f3];grind
  have C1:R.ab (R.fv 2 (R.qz (aQ.kQ b)) (kx b))<=1:=by
   obtain⟨o1,o2⟩:=N2.on (by decide);have lo:=N2.bx.lo;have hi:=N2.bx.hi;have m0:=N2.bx.m0;rw[R.dJ]at o1 o2 ⊢;constructor <;> grind
  obtain⟨s0,i1,i2,bx⟩:=aJT (p:=p+8) N1.bx N2.bx N1.v0 N2.v0 C1 (cCJ (R.cY _)) (p8 hp.1) hV (by omega) y1 y2 y3 y4;have lo:=bx.lo;have hi:=bx.hi;have m0:=bx.m0;have so:=bx.Ec;dsimp only at lo hi so;have b1:=y1.1;have b2:=y2.1;have b3:=y3.1;have b4:=y4.1;constructor
  all_goals try rw[e2]
  all_goals try rw[e1]
  ·exact s0
  ·omega
  ·omega
  ·omega
  ·omega
  ·exact i1
  ·exact i2
  ·exact so
  ·rw[v];grind
  ·rw[v];grind
end M
namespace W
open Go AI M
namespace pM
def E:=mE [(48,zW.aJ),(57,fZ.aJ),(58,Oo.aJ),(60,Oq.aJ),(47,Ev.aJ),(59,vZ.aJ)] 70 [15,67] [(8,[1,2,4,7,9]),(11,[1,4,7,9,11])] [8,11]
def aF:=bd f24
theorem aU:Nk E aF:=nk
def J8 a b c d e f g h i j k l m n o p q:=lE E f24 aF 8 [bK a,bM 1 37 [bC b,eF c,cV d,bC e,eF f,cV g],bM 2 37 [bC h,sc (slice none 0 0),cV i,bC j,sc (slice none 0 0),cV k],bM 3 35 [bC l,eF m,cV n],bM 4 35 [bC o,eF p,cV q]]
def Jw a b c d e f g h i j k l m:=lE E f24 aF 11 [bK a,bM 1 37 [bC b,sc (slice none 0 0),cV c,bC d,sc (slice none 0 0),cV e],bM 2 35 [bC f,eF g,cV h],bM 3 35 [bC i,eF j,cV k],bM 4 35 [bC l,sc (slice none 0 0),cV m]]
def bAA a b c d e f g h i j k l m n:=lE E f24 aF 11 [bK a,bM 1 37 [bC b,sc (slice none 0 0),cV c,bC d,sc (slice none 0 0),cV e],bM 2 35 [bC f,eF g,cV h],bM 3 35 [bC i,eF j,cV k],bM 4 35 [bC l,eF m,cV n]]
theorem start a c d e f g b:aG E f24 aF [D.agg [sc (bool a),ints u64 c,sc (int i64 d),sc (bool e),ints u64 f,sc (int i64 g)],D.s (sc (int i64 b))]=letI K:=int i64 0;letI I:=bool false;letI H:=slice none 0 0;letI G:=dv (a,c,d);letI F:=dv (e,f,g);letI B:=bif fZ.uG F F then fZ.hI F F else((0:Int),(0:Int));letI A:=bif fZ.uG G G then fZ.hI G G else((0:Int),(0:Int));aO (dR (a,c,d,e,f,g)) (aC (if 1<=b/\b<=70000 then(0:Int)else(1:Int)) fun h=>aD (h !=0) (some [D.agg [sc I,sc H,sc K,sc I,sc H,sc K],D.s (sc (int i64 h))]) (aO (aW (a,c,d)/\aW (a,c,d)) (aC (isNeg A.fst) fun i=>aC (M6.dg A.fst.natAbs) fun j=>aC A.snd fun k=>aC (bif fZ.uG G G then(0:Int)else(5:Int)) fun l=>aO (aW (e,f,g)/\aW (e,f,g)) (aC (isNeg B.fst) fun m=>aC (M6.dg B.fst.natAbs) fun n=>aC B.snd fun o=>aC (bif fZ.uG F F then(0:Int)else(5:Int)) fun p=>letI C:=some [D.agg [sc I,sc H,sc K,sc I,sc H,sc K],D.s (sc (int i64 (if p>l then p else l)))];aD (l !=0) C (aD (p !=0) C (pM.J8 b a c d e f g false 0 false 0 i j k m n o)))))):=eJ aU
theorem Am a b c d e f g h i j k l m n o p q:J8 a b c d e f g h i j k l m n o p q=letI A:=jK.Hb ((l,m,n),o,p,q);aO (aW (l,m,n)/\aW (o,p,q)) (aC A.fst fun r=>aC A.snd.fst fun s=>aC A.snd.snd fun t=>letI B:=pM.bAA a h i j k l m n o p q r s t;aO (aW (b,c,d)) (aC (dQ (dv (b,c,d)) ((0:Int),(0:Int))) fun u=>aD (decide (u<=0)) (aO (aW (e,f,g)) (aC (dQ (dv (e,f,g)) ((0:Int),(0:Int))) fun v=>aD (decide (0<=v)) (pM.Jw a h i j k l m n o p q false 0) B)) B)):=cJ aU
theorem wA a b c d e f g h i j k l m:Jw a b c d e f g h i j k l m=letI B:=M.shD false (dv (l,[],m)) a;letI A:=jA.Hb ((f,g,h),i,j,k);aO (aW (f,g,h)/\aW (i,j,k)) (aC A.fst fun n=>aC A.snd.fst fun o=>aC A.snd.snd fun p=>letI C:=M.shD true (dv (n,o,p)) a;aO (aW (l,[],m)/\aW (n,o,p)/\(1<=a/\a<=70000)/\wG false (dv (l,[],m)) a=true/\wG true (dv (n,o,p)) a=true) (aC (isNeg B.fst) fun q=>aC (M6.dg B.fst.natAbs) fun r=>aC B.snd fun s=>aC (isNeg C.fst) fun t=>aC (M6.dg C.fst.natAbs) fun u=>aC C.snd fun v=>some [D.agg [sc (bool q),ints u64 r,sc (int i64 s),sc (bool t),ints u64 u,sc (int i64 v)],D.s (sc (int i64 0))])):=cJ aU
theorem aSY a b c d e f g h i j k l m n:bAA a b c d e f g h i j k l m n=letI B:=M.shD false (dv (l,m,n)) a;letI A:=jA.Hb ((f,g,h),i,j,k);aO (aW (f,g,h)/\aW (i,j,k)) (aC A.fst fun o=>aC A.snd.fst fun p=>aC A.snd.snd fun q=>letI C:=M.shD true (dv (o,p,q)) a;aO (aW (l,m,n)/\aW (o,p,q)/\(1<=a/\a<=70000)/\wG false (dv (l,m,n)) a=true/\wG true (dv (o,p,q)) a=true) (aC (isNeg B.fst) fun r=>aC (M6.dg B.fst.natAbs) fun s=>aC B.snd fun t=>aC (isNeg C.fst) fun u=>aC (M6.dg C.fst.natAbs) fun v=>aC C.snd fun w=>some [D.agg [sc (bool r),ints u64 s,sc (int i64 t),sc (bool u),ints u64 v,sc (int i64 w)],D.s (sc (int i64 0))])):=cJ aU
def Az(a b:Int×Int):Int×Int:=bif decide (dQ a (0,0)<=0)&&decide (0<=dQ b (0,0))then(0,0)else aHJ (fZ.hI a a) (fZ.hI b b)
def Ba(a b:Int×Int):Int×Int:=aDX (fZ.hI a a) (fZ.hI b b)
def sp(s:vF)(p:Int):Prop×List D:=(dR s/\(1<=p/\p<=70000)/\(fZ.uG (dv (fL s)) (dv (fL s))=true/\fZ.uG (dv (fO s)) (dv (fO s))=true)/\wG false (Az (dv (fL s)) (dv (fO s))) p=true/\wG true (Ba (dv (fL s)) (dv (fO s))) p=true,[Dn (shD false (Az (dv (fL s)) (dv (fO s))) p) (shD true (Ba (dv (fL s)) (dv (fO s))) p),.s (.sc (.int .i64 0))])
theorem aCY{p q:Int×Int}(h:fZ.uG p q=true):mU (fZ.hI p q):=by
 unfold fZ.uG at h;rw[bXN]at h;exact jQ h.2 (of_decide_eq_true h.1)
theorem spec:eR E f24 aF tN (pN .i64) sp:=by
 rintro s p ⟨h1,hp,⟨m1,m2⟩,i1,i2⟩;have hL:aW (s.1,s.2.1,s.2.2.1):=h1.1;have hH:aW (s.2.2.2.1,s.2.2.2.2.1,s.2.2.2.2.2):=h1.2.1;refine(start s.1 s.2.1 s.2.2.1 s.2.2.2.1 s.2.2.2.2.1 s.2.2.2.2.2 p).trans ?_;unfold sp Az Ba at *;dsimp only at *;unfold fL fO at *;generalize ha:dv (s.1,s.2.1,s.2.2.1)=a at *;generalize hb:dv (s.2.2.2.1,s.2.2.2.2.1,s.2.2.2.2.2)=b at *;rw[gP h1,aB,if_pos hp,gG rfl,gP ⟨hL,hL⟩];simp only[aB,ha,hb,m1,m2,cond_true];rw[gP ⟨hH,hH⟩,gG rfl,gG rfl];have d1:=eI (aCY m1);have d2:=eI (aCY m2);have e1:=gF (fZ.hI a a);have e2:=gF (fZ.hI b b);have v1:=jK.Nv ((isNeg (fZ.hI a a).1,M6.dg (fZ.hI a a).1.natAbs,(fZ.hI a a).2),(isNeg (fZ.hI b b).1,M6.dg (fZ.hI b b).1.natAbs,(fZ.hI b b).2));have v2:=jA.Nv ((isNeg (fZ.hI a a).1,M6.dg (fZ.hI a a).1.natAbs,(fZ.hI a a).2),(isNeg (fZ.hI b b).1,M6.dg (fZ.hI b b).1.natAbs,(fZ.hI b b).2));have k1:=jK.Nu (a:=((isNeg (fZ.hI a a).1,M6.dg (fZ.hI a a).1.natAbs,(fZ.hI a a).2),(isNeg (fZ.hI b b).1,M6.dg (fZ.hI b b).1.natAbs,(fZ.hI b b).2))) ⟨d1,d2⟩;have k2:=jA.Nu (a:=((isNeg (fZ.hI a a).1,M6.dg (fZ.hI a a).1.natAbs,(fZ.hI a a).2),(isNeg (fZ.hI b b).1,M6.dg (fZ.hI b b).1.natAbs,(fZ.hI b b).2))) ⟨d1,d2⟩;dsimp only at v1 v2;rw[e1,e2]at v1 v2;have fin:∀x:iW,aW x->wG false (dv x) p=true->bAA p false 0 false 0 (isNeg (fZ.hI a a).1) (M6.dg (fZ.hI a a).1.natAbs) (fZ.hI a a).2 (isNeg (fZ.hI b b).1) (M6.dg (fZ.hI b b).1.natAbs) (fZ.hI b b).2 x.1 x.2.1 x.2.2=some [Dn (shD false (dv x) p) (shD true (aDX (fZ.hI a a) (fZ.hI b b)) p),.s (.sc (.int .i64 0))]:=by
  intro x hx ix;rw[aSY,gP ⟨d1,d2⟩];simp only[aB];rw[gP ⟨hx,k2,hp,ix,by rw[v2];exact i2⟩,v2];rfl
 have zz:dv (false,[],0)=(0,0):=rfl;have dz:aW (false,[],0):=by
  have:=eI aJW;rw[show((0,0):Int×Int).1.natAbs=0 from rfl,M6.cG]at this;exact this
 have bLH:wG false (0,0) p=true->Jw p false 0 false 0 (isNeg (fZ.hI a a).1) (M6.dg (fZ.hI a a).1.natAbs) (fZ.hI a a).2 (isNeg (fZ.hI b b).1) (M6.dg (fZ.hI b b).1.natAbs) (fZ.hI b b).2 false 0=some [Dn (shD false (0,0) p) (shD true (aDX (fZ.hI a a) (fZ.hI b b)) p),.s (.sc (.int .i64 0))]:=by
  intro ix;rw[wA,gP ⟨d1,d2⟩];simp only[aB];rw[gP ⟨dz,k2,hp,by rw[zz];exact ix,by rw[v2];exact i2⟩,v2,zz];rfl
 rw[Am,gP ⟨d1,d2⟩];simp only[aB,ha,hb];rw[gP hL]
 by_cases c1:dQ a (0,0)<=0
 ·rw[aR c1,gP hH];rw[decide_eq_true c1,cAJ]at i1 ⊢
  by_cases c2:0<=dQ b (0,0)
  ·rw[aR c2];rw[decide_eq_true c2,cond_true]at i1 ⊢;exact bLH i1
  ·rw[aN c2];rw[decide_eq_false c2,cond_false]at i1 ⊢;rw[<-v1]at i1 ⊢;exact fin _ k1 i1
 ·rw[aN c1];rw[decide_eq_false c1,cCU,cond_false]at i1 ⊢;rw[<-v1]at i1 ⊢;exact fin _ k1 i1
def aJ:dG:=orc2 tN (pN .i64) sp
theorem ok:OK 24 aJ:=(dZ E aF (aA zW.ok (aA fZ.ok (aA Oo.ok (aA Oq.ok (aA Ev.ok (aA vZ.ok aE)))))) func24).jR rfl spec
end pM
end W
namespace R
theorem aYX{x:Rat}{k:Int}(h:oY x k):ab (Sf x k*Sf x k+Cf x k*Cf x k-1)<=uU:=by
 have r:=Kq h;have q:=aQD (x:=x-(k:Rat)*(pi/2)) (by grind);unfold Sf Cf;generalize sn (x-(k:Rat)*(pi/2))=s at *;generalize cs (x-(k:Rat)*(pi/2))=c at *;have e:rs k s c*rs k s c+rc k s c*rc k s c=s*s+c*c:=by
  unfold rs rc;have h4:k%4=0\/k%4=1\/k%4=2\/k%4=3:=by omega
  rcases h4 with h |h |h |h
  ·rw[if_pos h,if_pos h]
  ·rw[if_neg (show ¬k%4=0 by omega),if_pos h,if_neg (show ¬k%4=0 by omega),if_pos h];grind
  ·rw[if_neg (show ¬k%4=0 by omega),if_neg (show ¬k%4=1 by omega),if_pos h,if_neg (show ¬k%4=0 by omega),if_neg (show ¬k%4=1 by omega),if_pos h];grind
  ·rw[if_neg (show ¬k%4=0 by omega),if_neg (show ¬k%4=1 by omega),if_neg (show ¬k%4=2 by omega),if_neg (show ¬k%4=0 by omega),if_neg (show ¬k%4=1 by omega),if_neg (show ¬k%4=2 by omega)];grind
 rw[e];exact q
end R
namespace M
open Go AI W
theorem Kh(a b:Int×Int):R.qz (fZ.hI a b)=R.qz a*R.qz b:=by
 unfold fZ.hI;rw[rL,Rat.intCast_mul,R.iG];unfold R.qz;grind
theorem bBS(x:Rat):0<=x*x:=by
 by_cases h:0<=x
 ·exact R.aM h h
 ·have:=R.aM (show 0<=-x by grind) (show 0<=-x by grind);grind
theorem aVM{a b:Int×Int}{V:Rat}(h1:R.qz a<=V)(h2:V<=R.qz b):R.qz (pM.Az a b)<=V*V/\V*V<=R.qz (pM.Ba a b):=by
 constructor
 ·unfold pM.Az
  by_cases c:dQ a (0,0)<=0/\0<=dQ b (0,0)
  ·rw[decide_eq_true c.1,decide_eq_true c.2,Bool.and_true,cond_true,aTM];exact bBS V
  ·have e:(decide (dQ a (0,0)<=0)&&decide (0<=dQ b (0,0)))=false:=by
    by_cases d:dQ a (0,0)<=0
    ·rw[decide_eq_true d,decide_eq_false (fun h=>c ⟨d,h⟩)];rfl
    ·rw[decide_eq_false d];rfl
   rw[e,cond_false];obtain⟨l1,l2⟩:=aWH (fZ.hI a a) (fZ.hI b b);rw[Kh]at l1 l2
   by_cases d:dQ a (0,0)<=0
   ·have d2:dQ b (0,0)<0:=by
     refine Int.not_le.1 fun h=>c ⟨d,h⟩
    rw[zL,aTM]at d2;have:=R.aM (show 0<=R.qz b-V by grind) (show 0<=-R.qz b-V by grind);grind
   ·have d1:0<dQ a (0,0):=by omega
    rw[uY,aTM]at d1;have:=R.aM (show 0<=V-R.qz a by grind) (show 0<=V+R.qz a by grind);grind
 ·unfold pM.Ba;have g:R.qz (fZ.hI a a)<=R.qz (aDX (fZ.hI a a) (fZ.hI b b))/\R.qz (fZ.hI b b)<=R.qz (aDX (fZ.hI a a) (fZ.hI b b)):=by
   unfold aDX
   by_cases d:0<dQ (fZ.hI b b) (fZ.hI a a)
   ·rw[decide_eq_true d,cond_true];rw[uY]at d;exact⟨cCJ d,cDM⟩
   ·rw[decide_eq_false d,cond_false];rw[uY]at d;exact⟨cDM,by grind⟩
  rw[Kh,Kh]at g
  by_cases d:0<=V
  ·have:=R.aM (show 0<=R.qz b-V by grind) (show 0<=R.qz b+V by grind);grind
  ·have:=R.aM (show 0<=V-R.qz a by grind) (show 0<=-R.qz a-V by grind);grind
theorem Vy:(1:Rat)=(((2^3000:Nat):Int):Rat)*R.pz (-3000):=by
 have:=R.Ma 3000;rw[show(3000:Int)=((3000:Nat):Int)from rfl,R.iF]at this;rw[Rat.intCast_natCast];exact this.symm
theorem aRK{q:Int×Int}{T:Rat}(hg:-3000<=q.2)(h:R.qz q<=T)(hT:T<=1+R.uU):R.qz q<=1:=by
 refine Rat.not_lt.1 fun hc=>?_
 have e:=rY.Kn (p:=q) hg;have o:=Vy;have P:=R.cY (-3000);have ep:2*R.uU<=R.pz (-3000):=by
  have h1:=R.yA (n:=3001) (by omega);have h2:=R.aTO 3001;have h3:=R.pW (-3000);rw[show(-3000:Int)-1=-((3001:Nat):Int) by rfl,<-h2]at h3;grind
 have E:=R.uT;generalize q.1*2^(q.2 - -3000).toNat=m at *;generalize ((2^3000:Nat):Int)=n at *;have lt:n<m:=by
  have:(n:Rat)<(m:Rat):=Rat.not_le.1 fun hh=>by
   have:=R.aM (cCJ P) (show 0<=(n:Rat)-(m:Rat) by grind);grind
  exact_mod_cast this
 have ge:((n+1:Int):Rat)<=(m:Rat):=by exact_mod_cast(show n+1<=m by omega)
 rw[cIY]at ge;have one:((1:Int):Rat)=1:=by norm_cast
 rw[one]at ge;have:=R.aM (cCJ P) (show 0<=(m:Rat)-((n:Rat)+1) by grind);grind
theorem aRL{q:Int×Int}{T:Rat}(hg:-3000<=q.2)(h:T<=R.qz q)(hT:1-R.uU<=T):1<=R.qz q:=by
 refine Rat.not_lt.1 fun hc=>?_
 have e:=rY.Kn (p:=q) hg;have o:=Vy;have P:=R.cY (-3000);have ep:2*R.uU<=R.pz (-3000):=by
  have h1:=R.yA (n:=3001) (by omega);have h2:=R.aTO 3001;have h3:=R.pW (-3000);rw[show(-3000:Int)-1=-((3001:Nat):Int) by rfl,<-h2]at h3;grind
 have E:=R.uT;generalize q.1*2^(q.2 - -3000).toNat=m at *;generalize ((2^3000:Nat):Int)=n at *;have lt:m<n:=by
  have:(m:Rat)<(n:Rat):=Rat.not_le.1 fun hh=>by
   have:=R.aM (cCJ P) (show 0<=(m:Rat)-(n:Rat) by grind);grind
  exact_mod_cast this
 have ge:((m+1:Int):Rat)<=(n:Rat):=by exact_mod_cast(show m+1<=n by omega)
 rw[cIY]at ge;have one:((1:Int):Rat)=1:=by norm_cast
 rw[one]at ge;have:=R.aM (cCJ P) (show 0<=(n:Rat)-((m:Rat)+1) by grind);grind
end M
namespace W
open Go AI M
namespace aZL
def E:=mE [(48,zU.aJ),(61,bY.aJ),(59,vZ.aJ)] 54 [17,51] [] []
def aF:=bd f25
theorem aU:Nk E aF:=nk
theorem start a b d e f g h i j k l m c:aG E f25 aF [D.agg [sc (bool a),ints u64 b,sc (int i64 d),sc (bool e),ints u64 f,sc (int i64 g)],D.agg [sc (bool h),ints u64 i,sc (int i64 j),sc (bool k),ints u64 l,sc (int i64 m)],D.s (sc (int i64 c))]=letI Q:=dv (h,i,j);letI P:=dv (a,b,d);letI O:=dv (k,l,m);letI N:=dv (e,f,g);letI K:=bool false;letI I:=int i64 0;letI H:=slice none 0 0;letI B:=bif bY.jG N O then bY.kB N O else((0:Int),(0:Int));letI A:=bif bY.jG P Q then bY.kB P Q else((0:Int),(0:Int));aO (dR (a,b,d,e,f,g)/\dR (h,i,j,k,l,m)) (aC (if 1<=c/\c<=70000 then(0:Int)else(1:Int)) fun n=>aD (n !=0) (some [D.agg [sc K,sc H,sc I,sc K,sc H,sc I],D.s (sc (int i64 n))]) (aO (aW (a,b,d)/\aW (h,i,j)) (aC (isNeg A.fst) fun o=>aC (M6.dg A.fst.natAbs) fun p=>aC A.snd fun q=>letI F:=M.shD false (dv (o,p,q)) c;aC (bif bY.jG P Q then(0:Int)else(5:Int)) fun r=>aO (aW (e,f,g)/\aW (k,l,m)) (aC (isNeg B.fst) fun s=>aC (M6.dg B.fst.natAbs) fun t=>aC B.snd fun u=>letI G:=M.shD true (dv (s,t,u)) c;aC (bif bY.jG N O then(0:Int)else(5:Int)) fun v=>letI C:=some [D.agg [sc K,sc H,sc I,sc K,sc H,sc I],D.s (sc (int i64 (if v>r then v else r)))];aD (r !=0) C (aD (v !=0) C (aO (aW (o,p,q)/\aW (s,t,u)/\(1<=c/\c<=70000)/\wG false (dv (o,p,q)) c=true/\wG true (dv (s,t,u)) c=true) (aC (isNeg F.fst) fun w=>aC (M6.dg F.fst.natAbs) fun x=>aC F.snd fun y=>aC (isNeg G.fst) fun z=>aC (M6.dg G.fst.natAbs) fun aa=>aC G.snd fun ab=>some [D.agg [sc (bool w),ints u64 x,sc (int i64 y),sc (bool z),ints u64 aa,sc (int i64 ab)],D.s (sc I)]))))))):=eJ aU
def sp(s t:vF)(p:Int):Prop×List D:=(dR s/\dR t/\(1<=p/\p<=70000)/\(bY.jG (dv (fL s)) (dv (fL t))=true/\bY.jG (dv (fO s)) (dv (fO t))=true)/\wG false (bY.kB (dv (fL s)) (dv (fL t))) p=true/\wG true (bY.kB (dv (fO s)) (dv (fO t))) p=true,[Dn (shD false (bY.kB (dv (fL s)) (dv (fL t))) p) (shD true (bY.kB (dv (fO s)) (dv (fO t))) p),.s (.sc (.int .i64 0))])
theorem spec:sR E f25 aF tN tN (pN .i64) sp:=by
 rintro s t p ⟨h1,h2,hp,⟨a1,a2⟩,i1,i2⟩;have bWX:bY.jG (dv (s.1,s.2.1,s.2.2.1)) (dv (t.1,t.2.1,t.2.2.1))=true:=a1;have bFC:bY.jG (dv (s.2.2.2.1,s.2.2.2.2.1,s.2.2.2.2.2)) (dv (t.2.2.2.1,t.2.2.2.2.1,t.2.2.2.2.2))=true:=a2;refine(start s.1 s.2.1 s.2.2.1 s.2.2.2.1 s.2.2.2.2.1 s.2.2.2.2.2 t.1 t.2.1 t.2.2.1 t.2.2.2.1 t.2.2.2.2.1 t.2.2.2.2.2 p).trans ?_;rw[gP ⟨h1,h2⟩,aB,if_pos hp,gG rfl,gP ⟨h1.1,h2.1⟩];simp only[aB,bWX,bFC,cond_true];rw[gP ⟨h1.2.1,h2.2.1⟩,gG rfl,gG rfl];have d1:=eI (Co h1.1.rB h2.1.rB a1);have d2:=eI (Co h1.2.1.rB h2.2.1.rB a2);have e1:=gF (bY.kB (dv (fL s)) (dv (fL t)));have e2:=gF (bY.kB (dv (fO s)) (dv (fO t)));unfold fL at d1 e1;unfold fO at d2 e2;rw[gP ⟨d1,d2,hp,by rw[e1];exact i1,by rw[e2];exact i2⟩,e1,e2];rfl
def aJ:dG:=orc3 tN tN (pN .i64) sp
theorem ok:OK 25 aJ:=(dZ E aF (aA zU.ok (aA bY.ok (aA vZ.ok aE))) func25).Cq rfl spec
end aZL
end W
namespace M
open Go AI W
structure Un(x:Int×Int)(n:Nat)(E:Int)(B:Rat):Prop where
 rB:mU x
 bl:bl x.1.natAbs<=n
 e:E<=x.2
 b:R.ab (R.qz x)<=B
theorem aEG{fn b p:Int}(hb:0<=b/\b<18446744073709551616)(h:b%9223372036854775808<9218868437227405312/\1<=p/\p<=2000)(hf:1<=fn/\fn<=2):Un (aI.iJ fn b p).1 2021 (-3200) 1/\Un (aI.iJ fn b p).2 2021 (-3200) 1:=by
 have c:=nZ (fn:=fn) h (by omega)
 by_cases hz:b%9223372036854775808=0
 ·rw[zI c hz]
  by_cases f:fn=2
  ·rw[if_pos f];have q:Un (1,0) 2021 (-3200) 1:=⟨aI.aDB,bYC aAP (by decide),by decide,by rw[nT,R.bW (by grind)];exact cDM⟩;exact⟨q,q⟩
  ·rw[if_neg f];have q:Un (0,0) 2021 (-3200) 1:=⟨aI.aDC,by show bl 0<=_;rw[wV];omega,by decide,by rw[aTM,R.bW cDM];grind⟩;exact⟨q,q⟩
 ·obtain⟨hr,_,hp,z⟩:=uP hb c hz;rw[yC c z];have N:=Ep (p:=p) hr ⟨hf.1,by omega⟩ hp;obtain⟨c1,c2⟩:=N.bits;obtain⟨o1,o2⟩:=N.on hf.2;have vl:=N.vl;have q:=R.pW (-1100);rw[show(-1100:Int)-1=-1101 by rfl]at q;obtain⟨a1,a2,a3,a4,_,_,V0⟩:=Bp N.bx (p8 hp.1) N.v0;have P:=R.cY (-1101);have pl:=N.bx.pl;have ph:=N.bx.ph;have k:∀x:Int×Int,mU x->(bl x.1.natAbs:Int)<=p+21->R.ab (R.qz x)<=1->R.pz (-1101)<=R.ab (R.qz x)->Un x 2021 (-3200) 1:=by
   intro x hx aLK h1 h0;have n0:x.1≠0:=xV (by grind);have t:=yU n0 h0;unfold bI at t;exact⟨hx,by omega,by omega,h1⟩
  exact⟨k _ pl c1 o1 (by grind),k _ ph c2 o2 (by grind)⟩
theorem Ct{a:Int×Int}(h:Un a 2021 (-3200) 1):fZ.uG a a=true/\Un (fZ.hI a a) 4042 (-6400) 1:=by
 have b:=bYC (nC a.1.natAbs a.1.natAbs) (Nat.add_le_add h.bl h.bl);rw[<-Int.natAbs_mul]at b;have he:=h.e;have eU:=h.rB.2.1;have i:jD (a.1*a.1) (a.2+a.2)=true:=by
  have:=h.rB;refine mS (by omega) ?_
  by_cases z:a.1=0
  ·have:=h.rB.2.2.1 z;rw[z,this];show(0:Int)+0+((bl (0*0:Int).natAbs:Nat):Int)<=1048577;decide
  ·have t:bI a<=0:=uL z (by rw[R.fA];exact h.b);have:=oO (n:=a.1.natAbs) (by omega);unfold bI at t;omega
 refine⟨?_,?_,?_,?_,?_⟩
 ·unfold fZ.uG fit;rw[i,decide_eq_true (by omega)];rfl
 ·exact jQ i (by omega)
 ·exact bYC (Cr _ _) b
 ·unfold fZ.hI
  by_cases z:a.1*a.1=0
  ·rw[z,iR];decide
  ·have:=wM (e:=a.2+a.2) z;omega
 ·rw[Kh,R.eA];have h0:=R.bB (R.qz a);have h1:=h.b;have:=R.aM h0 (show 0<=1-R.ab (R.qz a) by grind);grind
theorem aVN{a b:Int×Int}(ha:Un a 2021 (-3200) 1)(hb:Un b 2021 (-3200) 1):Un (pM.Az a b) 4042 (-6400) 1/\Un (pM.Ba a b) 4042 (-6400) 1:=by
 have q:Un (0,0) 4042 (-6400) 1:=⟨aI.aDC,by show bl 0<=_;rw[wV];omega,by decide,by rw[aTM,R.bW cDM];grind⟩;have x:=(Ct ha).2;have y:=(Ct hb).2;constructor
 ·unfold pM.Az;cases (decide (dQ a (0,0)<=0)&&decide (0<=dQ b (0,0)))
  ·rw[cond_false];rcases aKJ (fZ.hI a a) (fZ.hI b b)with h |h <;> rw[h] <;> assumption
  ·exact q
 ·unfold pM.Ba;rcases aLP (fZ.hI a a) (fZ.hI b b)with h |h <;> rw[h] <;> assumption
theorem bBU{up:Bool}{x:Int×Int}{n E:Int}(h:E<=x.2)(h0:E<=0):E<=(shD up x n).2:=by
 unfold shD cZ.pC;split
 ·by_cases z:x.1=0
  ·rw[z,iR];exact h0
  ·exact Int.le_trans h (wM z)
 ·dsimp only;rename_i hk;generalize lK.rD up x.1 ((bl x.1.natAbs:Int)-n).toNat=c
  by_cases z:c=0
  ·rw[z,iR];exact h0
  ·have:=wM (e:=x.2+((bl x.1.natAbs:Int)-n)) z;omega
theorem aCC{a b:Int×Int}{V:Rat}{n:Int}(ha:Un a 2021 (-3200) 1)(hb:Un b 2021 (-3200) 1)(h1:R.qz a<=V)(h2:V<=R.qz b)(hn:1<=n/\n<=70000) :
  wG false (pM.Az a b) n=true/\wG true (pM.Ba a b) n=true/\(∃W,Bx (shD false (pM.Az a b) n,shD true (pM.Ba a b) n) (V*V) W 0)/\Un (shD false (pM.Az a b) n) 70001 (-6400) 1/\Un (shD true (pM.Ba a b) n) 70001 (-6400) 1:=by
 obtain⟨f1,f2⟩:=aVN ha hb;obtain⟨q1,q2⟩:=aVM h1 h2;have B:Bx (pM.Az a b,pM.Ba a b) (V*V) (R.qz (pM.Ba a b)-R.qz (pM.Az a b)) 0:=⟨f1.rB,f2.rB,bYC f1.bl (by decide),bYC f2.bl (by decide),cDM,by grind,by grind,cDM⟩;have aGV:(1:Rat)<=R.pz 1100:=by rw[<-R.fA];exact R.cN (by decide)
 obtain⟨i1,i2,bx⟩:=Zj B hn (by have:=f1.b;dsimp only;grind) (by have:=f2.b;dsimp only;grind);obtain⟨k,rfl⟩:=cCM (show 0<=n by omega);have bGU:=xQ false (pM.Az a b) k;have bLP:=xQ true (pM.Ba a b) k;exact⟨i1,i2,⟨_,bx⟩,⟨bx.pl,by omega,bBU f1.e (by decide),Sd hn.1 f1.b⟩,⟨bx.ph,by omega,bBU f2.e (by decide),Sd hn.1 f2.b⟩⟩
theorem aEW{x y:Int×Int}{n:Nat}(hx:Un x n (-6400) 1)(hy:Un y n (-6400) 1):bY.jG x y=true/\Un (bY.kB x y) 6410 (-6400) 2:=by
 have one:(1:Rat)<=R.pz ((-6400:Int)+((6400:Nat):Int)):=by rw[show(-6400:Int)+((6400:Nat):Int)=0 by rfl,R.fA];exact cDM
 have ok:=Ty hx.rB hy.rB hx.e hy.e (n:=6400) (by have:=hx.b;grind) (by have:=hy.b;grind) (by decide) (by decide) (by decide);have rB:=Co hx.rB hy.rB ok;have v:R.ab (R.qz (bY.kB x y))<=2:=by
  rw[Eg];have:=R.xG (R.qz x) (R.qz y);have:=hx.b;have:=hy.b;grind
 have e:(-6400:Int)<=(bY.kB x y).2:=by
  unfold bY.kB;split
  ·exact hy.e
  ·split
   ·exact hx.e
   ·have h1:=hx.e;have h2:=hy.e
    by_cases z:bY.pK x y+bY.pJ x y=0
    ·rw[z,iR];decide
    ·have:=wM (e:=bY.iP x y) z;have:(-6400:Int)<=bY.iP x y:=by unfold bY.iP;split <;> omega
     omega
 refine⟨ok,rB,?_,e,v⟩
 by_cases z:(bY.kB x y).1=0
 ·rw[z];show bl 0<=_;rw[wV];omega
 ·have t:bI (bY.kB x y)<=1:=uL z (by rw[R.Ho];exact v);unfold bI at t;omega
theorem Wd{q:Int×Int}{n:Nat}(hb:bl q.1.natAbs<=n+1)(hn:n<=2100)(h:1/2<=R.qz q):-3000<=q.2:=by
 have n0:q.1≠0:=Gb (by grind);have t:-1<=bI q:=yU n0 (by
  rw[R.bW (by grind)];have:=R.pW 0;rw[R.fA,show(0:Int)-1=-1 by rfl]at this;grind)
 unfold bI at t;omega
end M
namespace W
open Go AI M
namespace aSQ
def E:=mE [(46,tI.aJ),(84,oR.aJ),(49,By.aJ)] 26 [] [(3,[2,3])] [3]
def aF:=bd f62
theorem aU:Nk E aF:=nk
def J3 a b c d e f g h i:=lE E f62 aF 3 [bM 0 37 [bC a,eF b,cV c,bC d,eF e,cV f],bM 1 35 [bC g,eF h,cV i]]
theorem start a b c d e f g h i:aG E f62 aF [D.agg [sc (bool a),ints u64 b,sc (int i64 c),sc (bool d),ints u64 e,sc (int i64 f)],D.agg [sc (bool g),ints u64 h,sc (int i64 i)]]=aO (dR (a,b,c,d,e,f)) (aO (aW (g,h,i)) (aSQ.J3 a b c d e f g h i)):=eJ aU
theorem fB a b c d e f g h i:J3 a b c d e f g h i=aO (aW (a,b,c)/\aW (g,h,i)) (aD (decide (dQ (dv (a,b,c)) (dv (g,h,i))<=0)) (aO (aW (g,h,i)/\aW (d,e,f)) (some [D.s (sc (bool (decide (dQ (dv (g,h,i)) (dv (d,e,f))<=0)))),D.s (sc (int i64 0))])) (some [D.s (sc (bool false)),D.s (sc (int i64 0))])):=cJ aU
def sp(s:vF)(x:iW):Prop×List D:=(dR s/\aW x,[.s (.sc (.bool (decide (dQ (dv (fL s)) (dv x)<=0)&&decide (dQ (dv x) (dv (fO s))<=0)))),.s (.sc (.int .i64 0))])
theorem spec:eR E f62 aF tN jE sp:=by
 rintro s x ⟨h1,h2⟩;refine(start s.1 s.2.1 s.2.2.1 s.2.2.2.1 s.2.2.2.2.1 s.2.2.2.2.2 x.1 x.2.1 x.2.2).trans ?_;unfold sp
 try dsimp only
 have hL:aW (s.1,s.2.1,s.2.2.1):=h1.1;have hH:aW (s.2.2.2.1,s.2.2.2.2.1,s.2.2.2.2.2):=h1.2.1;have hx:aW (x.1,x.2.1,x.2.2):=h2;rw[gP h1,gP h2,fB,gP ⟨hL,hx⟩];show aD (decide (dQ (dv (fL s)) (dv x)<=0)) _ _=_
 by_cases hc:dQ (dv (fL s)) (dv x)<=0
 ·rw[aR hc,gP ⟨hx,hH⟩,decide_eq_true hc,cAJ];rfl
 ·rw[aN hc,decide_eq_false hc,cCU]
def aJ:dG:=orc2 tN jE sp
theorem ok:OK 62 aJ:=(dZ E aF (aA tI.ok (aA oR.ok (aA By.ok aE))) func62).jR rfl spec
end aSQ
namespace Ul
def E:=mE [(62,aSQ.aJ),(30,aHE.aJ)] 19 [] [] []
def aF:=bd f26
theorem aU:Nk E aF:=nk
theorem start a c d e f g b:aG E f26 aF [D.agg [sc (bool a),ints u64 c,sc (int i64 d),sc (bool e),ints u64 f,sc (int i64 g)],D.s (sc (int i64 b))]=letI A:=(a,c,d,e,f,g);aO ((-9223372036854775808:Int)<=b/\b<9223372036854775808) (aC (isNeg (bV b 0).fst) fun h=>aC (M6.dg (bV b 0).fst.natAbs) fun i=>aC (bV b 0).snd fun j=>aO (dR A/\aW (h,i,j)) (aC (decide (dQ (dv (fL A)) (dv (h,i,j))<=0)&&decide (dQ (dv (h,i,j)) (dv (fO A))<=0)) fun k=>aD k (some [D.s (sc (bool true))]) (some [D.s (sc (bool false))]))):=eJ aU
def sp(s:vF)(i:Int):Prop×List D:=(dR s/\(-9223372036854775808<=i/\i<9223372036854775808),[.s (.sc (.bool (decide (dQ (dv (fL s)) (bV i 0)<=0)&&decide (dQ (bV i 0) (dv (fO s))<=0))))])
theorem spec:eR E f26 aF tN (pN .i64) sp:=by
 rintro s i ⟨hs,hi⟩;refine(start s.1 s.2.1 s.2.2.1 s.2.2.2.1 s.2.2.2.2.1 s.2.2.2.2.2 i).trans ((gP hi).trans ?_);have b:bl i.natAbs<=64:=dX.2 (by have:(2:Nat)^64=18446744073709551616:=rfl;omega);have hd:aW (isNeg (bV i 0).1,M6.dg (bV i 0).1.natAbs,(bV i 0).2):=eI (jQ (mS (by omega) (by omega)) (by omega));have e:dv (isNeg (bV i 0).1,M6.dg (bV i 0).1.natAbs,(bV i 0).2)=bV i 0:=gF _;rw[aB,aB,aB,gP ⟨hs,hd⟩,e,aB];show aD (decide (dQ (dv (fL s)) (bV i 0)<=0)&&decide (dQ (bV i 0) (dv (fO s))<=0)) _ _=some [D.s (.sc (.bool (decide (dQ (dv (fL s)) (bV i 0)<=0)&&decide (dQ (bV i 0) (dv (fO s))<=0))))];cases (decide (dQ (dv (fL s)) (bV i 0)<=0)&&decide (dQ (bV i 0) (dv (fO s))<=0)) <;> rfl
def aJ:dG:=orc2 tN (pN .i64) sp
theorem ok:OK 26 aJ:=(dZ E aF (aA aSQ.ok (aA aHE.ok aE)) func26).jR rfl spec
end Ul
namespace LawCircle16
def E:=mE [(11,nY.aJ),(17,Ac.aJ),(13,aI.aJ),(24,pM.aJ),(25,aZL.aJ),(26,Ul.aJ)] 77 [75] [] []
def aF:=bd f10
theorem aU:Nk E aF:=nk
theorem start a b:aG E f10 aF [D.s (sc (int u64 a)),D.s (sc (int i64 b))]=letI H1:=some [D.s (sc (bool false))];letI P:=aI.iJ 2 a b;letI O:=aI.iJ 1 a b;letI A:=i64.wrap (b+8);aO True (aO (0<=a/\a<18446744073709551616) (aC (decide (a%9223372036854775808<(9218868437227405312:Int)/\1<=b/\b<=2000)) fun c=>aD (!c) (some [D.s (sc (bool true))]) (aO (0<=a/\a<18446744073709551616) (aC (isNeg O.fst.fst) fun d=>aC (M6.dg O.fst.fst.natAbs) fun e=>aC O.fst.snd fun f=>aC (isNeg O.snd.fst) fun g=>aC (M6.dg O.snd.fst.natAbs) fun h=>aC O.snd.snd fun i=>letI B:=(d,e,f,g,h,i);letI X:=dv (fO B);letI W:=dv (fL B);letI I:=pM.Ba W X;letI D1:=M.shD true I A;letI H:=pM.Az W X;letI A1:=M.shD false H A;aC (bQ.pP 1 a b) fun j=>aO (0<=a/\a<18446744073709551616) (aC (isNeg P.fst.fst) fun k=>aC (M6.dg P.fst.fst.natAbs) fun l=>aC P.fst.snd fun m=>aC (isNeg P.snd.fst) fun n=>aC (M6.dg P.snd.fst.natAbs) fun o=>aC P.snd.snd fun p=>letI C:=(k,l,m,n,o,p);letI Z:=dv (fO C);letI Y:=dv (fL C);letI N:=pM.Ba Y Z;letI F1:=M.shD true N A;letI K:=pM.Az Y Z;letI B1:=M.shD false K A;aC (bQ.pP 2 a b) fun q=>aO (dR B/\(1<=i64.wrap (b+8)/\i64.wrap (b+8)<=70000)/\(fZ.uG W W=true/\fZ.uG X X=true)/\wG false H A=true/\wG true I A=true) (aC (isNeg A1.fst) fun r=>aC (M6.dg A1.fst.natAbs) fun s=>aC A1.snd fun t=>aC (isNeg D1.fst) fun u=>aC (M6.dg D1.fst.natAbs) fun v=>aC D1.snd fun w=>letI T:=(r,s,t,u,v,w);aO (dR C/\(1<=i64.wrap (b+8)/\i64.wrap (b+8)<=70000)/\(fZ.uG Y Y=true/\fZ.uG Z Z=true)/\wG false K A=true/\wG true N A=true) (aC (isNeg B1.fst) fun x=>aC (M6.dg B1.fst.natAbs) fun y=>aC B1.snd fun z=>aC (isNeg F1.fst) fun aa=>aC (M6.dg F1.fst.natAbs) fun ab=>aC F1.snd fun ac=>letI Q:=(x,y,z,aa,ab,ac);letI G:=bY.kB (dv (fO T)) (dv (fO Q));letI G1:=M.shD true G A;letI F:=bY.kB (dv (fL T)) (dv (fL Q));letI C1:=M.shD false F A;aO (dR T/\dR Q/\(1<=i64.wrap (b+8)/\i64.wrap (b+8)<=70000)/\(bY.jG (dv (fL T)) (dv (fL Q))=true/\bY.jG (dv (fO T)) (dv (fO Q))=true)/\wG false F A=true/\wG true G A=true) (aC (isNeg C1.fst) fun ad=>aC (M6.dg C1.fst.natAbs) fun ae=>aC C1.snd fun af=>aC (isNeg G1.fst) fun ag=>aC (M6.dg G1.fst.natAbs) fun ah=>aC G1.snd fun ai=>letI U:=(ad,ae,af,ag,ah,ai);aD (j==0) (aD (q==0) (aO (dR U/\(-9223372036854775808:Int)<=(1:Int)/\(1:Int)<(9223372036854775808:Int)) (aC (decide (dQ (dv (fL U)) (bV 1 0)<=0)&&decide (dQ (bV 1 0) (dv (fO U))<=0)) fun aj=>some [D.s (sc (bool aj))])) H1) H1)))))))):=eJ aU
def sp(b p:Int):Prop×List D:=(0<=b/\b<18446744073709551616,[.s (.sc (.bool true))])
theorem Ys{b p:Int}(hb:0<=b/\b<18446744073709551616)(h:b%9223372036854775808<9218868437227405312/\1<=p/\p<=2000):R.ab (nQ 1 b*nQ 1 b+nQ 2 b*nQ 2 b-1)<=R.uU:=by
 have c:=nZ (fn:=1) h (by decide);unfold nQ
 by_cases hz:b%9223372036854775808=0
 ·rw[if_pos hz,if_pos hz,if_neg (by decide),if_pos rfl];have:=R.uT;rw[show(0*0+1*1-1:Rat)=0 by grind,R.bW cDM];grind
 ·obtain⟨hr,_⟩:=uP hb c hz;rw[if_neg hz,if_neg hz];exact R.aYX (Cv hr)
theorem spec:eR E f10 aF (pN .u64) (pN .i64) sp:=by
 intro b p hb;have hb:0<=b/\b<18446744073709551616:=hb;refine(start b p).trans ((gP trivial).trans ((gP hb).trans ?_));rw[aB]
 by_cases c1:b%9223372036854775808<9218868437227405312/\1<=p/\p<=2000
 ·have e1:=nZ (fn:=1) c1 (by decide);have e2:=nZ (fn:=2) c1 (by decide);have s1:=aI.yB (fn:=1) (p:=p) hb;have s2:=aI.yB (fn:=2) (p:=p) hb;obtain⟨v1,v2⟩:=zJ hb e1;obtain⟨v3,v4⟩:=zJ hb e2;obtain⟨f1,f2⟩:=aEG (fn:=1) hb c1 (by decide);obtain⟨f3,f4⟩:=aEG (fn:=2) hb c1 (by decide);have w:i64.wrap (p+8)=p+8:=wrap_i64;have n8:1<=p+8/\p+8<=70000:=⟨by omega,by omega⟩;obtain⟨i1,i2,⟨W1,bLO⟩,g1,g2⟩:=aCC f1 f2 v1 v2 n8;obtain⟨i3,i4,⟨W2,aZB⟩,g3,g4⟩:=aCC f3 f4 v3 v4 n8;have m1:=(Ct f1).1;have m2:=(Ct f2).1;have m3:=(Ct f3).1;have m4:=(Ct f4).1;have bWH:=Ys hb c1;rw[decide_eq_true c1,Bool.not_true,bF,gP hb,aB,aB,aB,aB,aB,aB,aB,gP hb,aB,aB,aB,aB,aB,aB,aB,e1,e2,w,aI.fold,aI.fold,jU,jV,jU,jV];refine(gP ⟨s1,n8,⟨m1,m2⟩,i1,i2⟩).trans ?_;rw[aB,aB,aB,aB,aB,aB];refine(gP ⟨s2,n8,⟨m3,m4⟩,i3,i4⟩).trans ?_;rw[aB,aB,aB,aB,aB,aB,aI.fold,aI.fold];have t1:=bLO.Ec;have t2:=aZB.Ec;have bRK:=bLO.lo;have bTW:=bLO.hi;have bFR:=aZB.lo;have aXL:=aZB.hi;dsimp only at t1 t2 bRK bTW bFR aXL;generalize M.shD false (pM.Az (aI.iJ 1 b p).1 (aI.iJ 1 b p).2) (p+8)=x1 at *;generalize M.shD true (pM.Ba (aI.iJ 1 b p).1 (aI.iJ 1 b p).2) (p+8)=x2 at *;generalize M.shD false (pM.Az (aI.iJ 2 b p).1 (aI.iJ 2 b p).2) (p+8)=y1 at *;generalize M.shD true (pM.Ba (aI.iJ 2 b p).1 (aI.iJ 2 b p).2) (p+8)=y2 at *;rw[jU,jV,jU,jV];obtain⟨a1,k1⟩:=aEW g1 g3;obtain⟨a2,k2⟩:=aEW g2 g4;have B:Bx (bY.kB x1 y1,bY.kB x2 y2) (nQ 1 b*nQ 1 b+nQ 2 b*nQ 2 b) (R.qz (bY.kB x2 y2)-R.qz (bY.kB x1 y1)) 0:=by
   refine⟨k1.rB,k2.rB,bYC k1.bl (by decide),bYC k2.bl (by decide),cDM,?_,?_,cDM⟩
   ·dsimp only;rw[Eg];grind
   ·dsimp only;rw[Eg];grind
  have aGV:(2:Rat)<=R.pz 1100:=by rw[<-R.Ho];exact R.cN (by decide)
  obtain⟨j1,j2,bx⟩:=Zj B n8 (by have:=k1.b;dsimp only;grind) (by have:=k2.b;dsimp only;grind);refine(gP ⟨t1,t2,n8,⟨a1,a2⟩,j1,j2⟩).trans ?_;obtain⟨k,hk⟩:=cCM (show 0<=p+8 by omega);have bGU:=xQ false (bY.kB x1 y1) k;have bLP:=xQ true (bY.kB x2 y2) k;rw[<-hk]at bGU bLP;have so:=bx.Ec;have lo:=bx.lo;have hi:=bx.hi;dsimp only at so lo hi;generalize M.shD false (bY.kB x1 y1) (p+8)=z1 at *;generalize M.shD true (bY.kB x2 y2) (p+8)=z2 at *;generalize nQ 1 b*nQ 1 b+nQ 2 b*nQ 2 b=T at *;rw[R.dJ]at bWH;have et:=R.Xh;have one:R.qz (bV 1 0)=1:=by rw[rL];exact nT
  have L:R.qz z1<=1:=by
   refine Rat.not_lt.1 fun hc=>?_
   have:=aRK (Wd bGU (by omega) (by grind)) (T:=T) (by grind) (by grind);grind
  have H:1<=R.qz z2:=aRL (Wd bLP (by omega) (by grind)) (T:=T) (by grind) (by grind);rw[aB,aB,aB,aB,aB,aB,cL rfl,cL rfl,aI.fold];refine(gP ⟨so,by decide,by decide⟩).trans ?_;rw[aB,jU,jV,decide_eq_true (lC.2 (by rw[one];exact L)),decide_eq_true (lC.2 (by rw[one];exact H))];rfl
 ·rw[decide_eq_false c1,cJB,bT];rfl
def aJ:dG:=orc2 (pN .u64) (pN .i64) sp
theorem fnok:qG prog E 10 f10 aF:=Hy oA mixed (iH _ rfl (aA nY.ok (aA Ac.ok (aA aI.ok (aA pM.ok (aA aZL.ok (aA Ul.ok aE)))))) (lA)) func10 rfl rfl rfl
theorem ok:lT prog base.glob 10 aJ:=fnok.jR rfl spec
end LawCircle16
end W
end Go.Proofs.YtaajbopgknekmaaGreatDoor
end
