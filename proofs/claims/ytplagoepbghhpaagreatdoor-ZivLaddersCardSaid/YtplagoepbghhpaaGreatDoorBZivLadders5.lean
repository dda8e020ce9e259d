/- Contracts. -/
import Derived.RangeFuncFrom
import Derived.RangeFuncLeaves
import Derived.RangeFuncCalls
import Derived.Shelf.Abstract
import Derived.WalkKit
import Derived.OwnWalkIn
import Derived.TacticsInMore
import Derived.LoopNIn
import Derived.LoopIn
import Derived.ProofKit
import Derived.OpenShut
import Derived.Carry
import Derived.LaidMore
import Derived.MakeChecks
import Derived.Test.YtplagoepbghhpaaGreatDoorBZivLadders4
set_option linter.unusedVariables false
set_option linter.unusedSimpArgs false
set_option exponentiation.threshold 10000000
noncomputable section
open Go.IntKind(i8 i16 i32 i64 u8 u16 u32 u64)
open Go.Proofs.Tryz
open Rat renaming le_of_lt->cFS,intCast_natCast->cGV,le_refl->cGB,le_trans->cFT,intCast_add->cIN,intCast_neg->cIM,mul_assoc->cGT,zero_mul->cKM,one_mul->cKN,intCast_sub->cJM,natCast_mul->cFU,mul_le_mul_of_nonneg_right->cKO
open Nat renaming le_trans->bWK,le_refl->bVO,pow_pos->bYO,pow_succ->cAN,zero_le->cBX,pow_add->cAQ,zero_add->bVQ,reduceAdd->cBJ,reduceSub->cBK,le_succ->cIP
open Int renaming natAbs_neg->cCC,toNat_natCast->bZL,toNat->cJN,eq_ofNat_of_zero_le->cAS,emod_nonneg->cEI,le_refl->cHO,natAbs_natCast->cBF,mul_assoc->cAZ,mul_ediv_add_emod->cEH,emod_lt_of_pos->cEJ
open Bool renaming true_and->bYQ,false_or->bXP,false_and->cAV,not_true->bXO,and_eq_true->bVU
open List renaming take->cER,nil_append->bZR,cons_append->bXH,size_toArray->bXE,length_cons->bYZ,length_nil->bZA,push_toArray->cBL,append_toArray->cBM,drop_zero->cCE,take_of_length_le->cBH,getElem?_eq_getElem->bWF,getElem?_map->bVS
namespace Go.Proofs.YtplagoepbghhpaaGreatDoor
open Go.Value(int bool slice)
open AI.S(sc ints)
namespace W
open Go AI M
namespace aAV
def E:=mE [(210,cC.aJ)] 14 [11] [] []
def aE:=bd f167
theorem aX:Nk E aE:=nk
theorem start a b d e f g c:aH E f167 aE [D.agg [sc (bool a),ints u64 b,sc (int i64 d)],D.agg [sc (bool e),ints u64 f,sc (int i64 g)],D.s (sc (int i64 c))]=letI A:=cC.uK true c (dv (a,b,d)) (dv (e,f,g));letI B:=bif gY A.fst A.snd then aN A.fst A.snd else((0:Int),(0:Int));aO (aQ (a,b,d)/\aQ (e,f,g)/\(dv (e,f,g)).fst≠0/\b.length<=4096/\f.length<=4096/\1<=c/\c<=70000) (some [D.agg [sc (bool (isNeg B.fst)),ints u64 (M6.dg B.fst.natAbs),sc (int i64 B.snd)],D.s (sc (int i64 (bif gY A.fst A.snd then(0:Int)else(5:Int))))]):=eJ aX
def sp(x y:gE)(p:Int):Prop×List D:=(aQ x/\aQ y/\(dv y).1≠0/\x.2.1.length<=4096/\y.2.1.length<=4096/\1<=p/\p<=70000,dE (gY (cC.uK true p (dv x) (dv y)).1 (cC.uK true p (dv x) (dv y)).2) (aN (cC.uK true p (dv x) (dv y)).1 (cC.uK true p (dv x) (dv y)).2))
theorem spec:oK E f167 aE iX iX (pN .i64) sp:=by
 intro x y p h;refine(start x.1 x.2.1 x.2.2 y.1 y.2.1 y.2.2 p).trans ((gP h).trans ?_);rfl
def aJ:dK:=orc3 iX iX (pN .i64) sp
theorem ok:OK 167 aJ:=(eZ E aE (aA cC.ok aD) func167).yK rfl spec
end aAV
namespace Xj
def E:=mE [] 23 [] [] []
def aE:=bd f164
theorem aX:Nk E aE:=nk
theorem start a c e b f g h d:aH E f164 aE [D.agg [sc (bool a),ints u64 c,sc (int i64 e)],D.s (sc (int i64 b)),D.agg [sc (bool f),ints u64 g,sc (int i64 h)],D.s (sc (int i64 d))]=letI B:=int i64 0;letI A:=some [D.agg [sc (bool false),sc (slice none 0 0),sc B,sc (bool false),sc (slice none 0 0),sc B],D.s (sc (int i64 (if d>b then d else b)))];aB (b !=0) A (aB (d !=0) A (some [D.agg [sc (bool a),ints u64 c,sc (int i64 e),sc (bool f),ints u64 g,sc (int i64 h)],D.s (sc B)])):=eJ aX
def sp(x:gE)(e:Int)(y:gE)(f:Int):Prop×List D:=(e=0/\f=0,[.agg [.sc (.bool x.1),.ints .u64 x.2.1,.sc (.int .i64 x.2.2),.sc (.bool y.1),.ints .u64 y.2.1,.sc (.int .i64 y.2.2)],.s (.sc (.int .i64 0))])
theorem spec:Om E f164 aE iX (pN .i64) iX (pN .i64) sp:=by
 rintro x e y f ⟨rfl,rfl⟩;exact start x.1 x.2.1 x.2.2 0 y.1 y.2.1 y.2.2 0
def aJ:dK:=orc4 iX (pN .i64) iX (pN .i64) sp
theorem ok:OK 164 aJ:=(eZ E aE aD func164).aOE rfl spec
end Xj
namespace iS
def E:=mE [(117,yB.aJ),(159,fK.aJ),(20,jY.aJ),(165,Mu.aJ),(166,Nd.aJ),(167,aAV.aJ),(164,Xj.aJ)] 86 [21,83] [(11,[2,3,4,6]),(14,[2,3,4,6,11,12]),(16,[2,3,6,11,12])] [11,14,16]
def aE:=bd f119
theorem aX:Nk E aE:=nk
def bGE a b c d e f g h i j k l m n o p q:=mD E f119 aE 11 [bP a,dM 1 44 [cU b,fU c,cV d,cU e,fU f,cV g],dM 2 44 [cU h,fU i,cV j,cU k,fU l,cV m],dM 3 44 [cU n,sc (slice none 0 0),cV o,cU p,sc (slice none 0 0),cV q]]
def aSE a b c d e f g h i j k l m n o p q r s t u v w:=mD E f119 aE 14 [bP a,dM 1 44 [cU b,fU c,cV d,cU e,fU f,cV g],dM 2 44 [cU h,fU i,cV j,cU k,fU l,cV m],dM 3 44 [cU n,sc (slice none 0 0),cV o,cU p,sc (slice none 0 0),cV q],dM 4 29 [cU r,fU s,cV t],dM 5 29 [cU u,fU v,cV w]]
def aSD a b c d e f g h i j k l m n o p q:=mD E f119 aE 16 [bP a,dM 1 44 [cU b,fU c,cV d,cU e,fU f,cV g],dM 2 44 [cU h,sc (slice none 0 0),cV i,cU j,sc (slice none 0 0),cV k],dM 3 29 [cU l,fU m,cV n],dM 4 29 [cU o,fU p,cV q]]
theorem start a b d e f g h i j k l m c:aH E f119 aE [D.agg [sc (bool a),ints u64 b,sc (int i64 d),sc (bool e),ints u64 f,sc (int i64 g)],D.agg [sc (bool h),ints u64 i,sc (int i64 j),sc (bool k),ints u64 l,sc (int i64 m)],D.s (sc (int i64 c))]=letI I:=int i64 0;letI F:=bool false;letI C:=slice none 0 0;letI B:=(a,b,d,e,f,g);letI N:=dv (gZ B);letI K:=dv (hI B);letI A:=(h,i,j,k,l,m);letI H:=dv (hI A);letI G:=dv (gZ A);aO (eQ B/\eQ A) (aC (if 1<=c/\c<=70000 then(0:Int)else(1:Int)) fun n=>aB (n !=0) (some [D.agg [sc F,sc C,sc I,sc F,sc C,sc I],D.s (sc (int i64 n))]) (aO (eQ A) (aC (fK.sJ G H) fun o=>aB (o==0) (some [D.agg [sc F,sc C,sc I,sc F,sc C,sc I],D.s (sc (int i64 4))]) (aB (o==(-1:Int)) (aO (eQ B) (aC (isNeg (-K.fst)) fun p=>aC (M6.dg (-K.fst).natAbs) fun q=>aC K.snd fun r=>aC (isNeg (-N.fst)) fun s=>aC (M6.dg (-N.fst).natAbs) fun t=>aC N.snd fun u=>aO (eQ A) (aC (isNeg (-H.fst)) fun v=>aC (M6.dg (-H.fst).natAbs) fun w=>aC H.snd fun x=>aC (isNeg (-G.fst)) fun y=>aC (M6.dg (-G.fst).natAbs) fun z=>aC G.snd fun aa=>iS.bGE c p q r s t u v w x y z aa false 0 false 0))) (iS.bGE c a b d e f g h i j k l m false 0 false 0))))):=eJ aX
theorem aYH a b c d e f g h i j k l m n o p q:bGE a b c d e f g h i j k l m n o p q=aO (aQ (b,c,d)) (aC (eF (dv (b,c,d)) ((0:Int),(0:Int))) fun r=>aB (decide (r<0)) (iS.aSE a b c d e f g h i j k l m n o p q h i j h i j) (iS.aSE a b c d e f g h i j k l m n o p q k l m h i j)):=cJ aX
theorem Tp a b c d e f g h i j k l m n o p q r s t u v w:aSE a b c d e f g h i j k l m n o p q r s t u v w=aO (aQ (e,f,g)) (aC (eF (dv (e,f,g)) ((0:Int),(0:Int))) fun x=>aB (decide (x<0)) (iS.aSD a b c d e f g n o p q r s t k l m) (iS.aSD a b c d e f g n o p q r s t u v w)):=cJ aX
theorem aAS a b c d e f g h i j k l m n o p q:aSD a b c d e f g h i j k l m n o p q=letI B:=cC.uK true a (dv (e,f,g)) (dv (o,p,q));letI F:=bif gY B.fst B.snd then aN B.fst B.snd else((0:Int),(0:Int));letI A:=cC.uK false a (dv (b,c,d)) (dv (l,m,n));letI C:=bif gY A.fst A.snd then aN A.fst A.snd else((0:Int),(0:Int));aO (aQ (b,c,d)/\aQ (l,m,n)/\(dv (l,m,n)).fst≠0/\c.length<=4096/\m.length<=4096/\1<=a/\a<=70000) (aC (isNeg C.fst) fun r=>aC (M6.dg C.fst.natAbs) fun s=>aC C.snd fun t=>aC (bif gY A.fst A.snd then(0:Int)else(5:Int)) fun u=>aO (aQ (e,f,g)/\aQ (o,p,q)/\(dv (o,p,q)).fst≠0/\f.length<=4096/\p.length<=4096/\1<=a/\a<=70000) (aC (isNeg F.fst) fun v=>aC (M6.dg F.fst.natAbs) fun w=>aC F.snd fun x=>aC (bif gY B.fst B.snd then(0:Int)else(5:Int)) fun y=>aO (u=0/\y=0) (some [D.agg [sc (bool r),ints u64 s,sc (int i64 t),sc (bool v),ints u64 w,sc (int i64 x)],D.s (sc (int i64 0))]))):=cJ aX
def aGU(p:Int)(a u v:Int×Int):Int×Int:=cC.uK false p a (bif decide (eF a (0,0)<0)then u else v)
def aGV(p:Int)(a u v:Int×Int):Int×Int:=cC.uK true p a (bif decide (eF a (0,0)<0)then v else u)
def Ki(p:Int)(a b u v:Int×Int):Int×Int:=bif fK.sJ u v==-1 then aGU p (jY.wH b) (jY.wH v) (jY.wH u)else aGU p a u v
def Kj(p:Int)(a b u v:Int×Int):Int×Int:=bif fK.sJ u v==-1 then aGV p (jY.wH a) (jY.wH v) (jY.wH u)else aGV p b u v
def sp(s t:wV)(p:Int):Prop×List D:=(eQ s/\eQ t/\(1<=p/\p<=70000)/\fK.sJ (dv (gZ t)) (dv (hI t))≠0 /\
 (bl (dv (gZ s)).1.natAbs<=262144/\bl (dv (hI s)).1.natAbs<=262144/\bl (dv (gZ t)).1.natAbs<=262144/\bl (dv (hI t)).1.natAbs<=262144) /\
 gY (Ki p (dv (gZ s)) (dv (hI s)) (dv (gZ t)) (dv (hI t))).1 (Ki p (dv (gZ s)) (dv (hI s)) (dv (gZ t)) (dv (hI t))).2=true/\gY (Kj p (dv (gZ s)) (dv (hI s)) (dv (gZ t)) (dv (hI t))).1 (Kj p (dv (gZ s)) (dv (hI s)) (dv (gZ t)) (dv (hI t))).2=true,
 [uX (aN (Ki p (dv (gZ s)) (dv (hI s)) (dv (gZ t)) (dv (hI t))).1 (Ki p (dv (gZ s)) (dv (hI s)) (dv (gZ t)) (dv (hI t))).2) (aN (Kj p (dv (gZ s)) (dv (hI s)) (dv (gZ t)) (dv (hI t))).1 (Kj p (dv (gZ s)) (dv (hI s)) (dv (gZ t)) (dv (hI t))).2),.s (.sc (.int .i64 0))])
theorem J{p:Int}(hp:1<=p/\p<=70000){x y u v:gE}(hx:aQ x)(hy:aQ y)(hu:aQ u)(hv:aQ v)(u0:(dv u).1≠0)(v0:(dv v).1≠0)(lx:x.2.1.length<=4096)(ly:y.2.1.length<=4096)(lu:u.2.1.length<=4096)(lv:v.2.1.length<=4096)
  (i1:gY (aGU p (dv x) (dv u) (dv v)).1 (aGU p (dv x) (dv u) (dv v)).2=true) (i2:gY (aGV p (dv y) (dv u) (dv v)).1 (aGV p (dv y) (dv u) (dv v)).2=true) :
  bGE p x.1 x.2.1 x.2.2 y.1 y.2.1 y.2.2 u.1 u.2.1 u.2.2 v.1 v.2.1 v.2.2 false 0 false 0=some [uX (aN (aGU p (dv x) (dv u) (dv v)).1 (aGU p (dv x) (dv u) (dv v)).2) (aN (aGV p (dv y) (dv u) (dv v)).1 (aGV p (dv y) (dv u) (dv v)).2),.s (.sc (.int .i64 0))]:=by
 have fin:∀m n:gE,aQ m->aQ n->(dv m).1≠0->(dv n).1≠0->m.2.1.length<=4096->n.2.1.length<=4096->gY (cC.uK false p (dv x) (dv m)).1 (cC.uK false p (dv x) (dv m)).2=true->gY (cC.uK true p (dv y) (dv n)).1 (cC.uK true p (dv y) (dv n)).2=true ->
   aSD p x.1 x.2.1 x.2.2 y.1 y.2.1 y.2.2 false 0 false 0 m.1 m.2.1 m.2.2 n.1 n.2.1 n.2.2=some [uX (aN (cC.uK false p (dv x) (dv m)).1 (cC.uK false p (dv x) (dv m)).2) (aN (cC.uK true p (dv y) (dv n)).1 (cC.uK true p (dv y) (dv n)).2),.s (.sc (.int .i64 0))]:=by
  intro m n hm hn m0 n0 lm ln j1 j2;have x1:(x.1,x.2.1,x.2.2)=x:=rfl;have x2:(y.1,y.2.1,y.2.2)=y:=rfl;have x3:(m.1,m.2.1,m.2.2)=m:=rfl;have x4:(n.1,n.2.1,n.2.2)=n:=rfl;rw[aAS];simp only[aG,x1,x2,x3,x4,j1,j2,cond_true];rw[gP ⟨hx,hm,m0,lx,lm,hp.1,hp.2⟩,gP ⟨hy,hn,n0,ly,ln,hp.1,hp.2⟩,gP ⟨trivial,trivial⟩];rfl
 unfold aGU aGV at *;rw[aYH,gP hx,aG]
 by_cases c1:eF (dv x) (0,0)<0
 ·rw[show dv (x.1,x.2.1,x.2.2)=dv x from rfl,aP c1,Tp,gP hy,aG,show dv (y.1,y.2.1,y.2.2)=dv y from rfl];rw[decide_eq_true c1,cond_true]at i1 ⊢
  by_cases c2:eF (dv y) (0,0)<0
  ·rw[aP c2];rw[decide_eq_true c2,cond_true]at i2 ⊢;exact fin u v hu hv u0 v0 lu lv i1 i2
  ·rw[aL c2];rw[decide_eq_false c2,cond_false]at i2 ⊢;exact fin u u hu hu u0 u0 lu lu i1 i2
 ·rw[show dv (x.1,x.2.1,x.2.2)=dv x from rfl,aL c1,Tp,gP hy,aG,show dv (y.1,y.2.1,y.2.2)=dv y from rfl];rw[decide_eq_false c1,cond_false]at i1 ⊢
  by_cases c2:eF (dv y) (0,0)<0
  ·rw[aP c2];rw[decide_eq_true c2,cond_true]at i2 ⊢;exact fin v v hv hv v0 v0 lv lv i1 i2
  ·rw[aL c2];rw[decide_eq_false c2,cond_false]at i2 ⊢;exact fin v u hv hu v0 u0 lv lu i1 i2
theorem cell{q:Int×Int}(h:jK q)(hb:bl q.1.natAbs<=262144):(isNeg q.1,M6.dg q.1.natAbs,q.2).2.1.length<=4096:=by
 have:=dG h;refine this.Gc ?_;rw[dU];exact hb
theorem spec:oK E f119 aE yJ yJ (pN .i64) sp:=by
 rintro s t p ⟨h1,h2,hp,hs,⟨l1,l2,l3,l4⟩,i1,i2⟩;refine(start s.1 s.2.1 s.2.2.1 s.2.2.2.1 s.2.2.2.2.1 s.2.2.2.2.2 t.1 t.2.1 t.2.2.1 t.2.2.2.1 t.2.2.2.2.1 t.2.2.2.2.2 p).trans ?_;rw[gP ⟨h1,h2⟩,aG,if_pos hp,gG rfl,gP h2,aG];unfold sp;have n1:(dv (gZ t)).1≠0:=fun hz=>by
  have:=Eh.1 (Aw hz);have o:=kX.1 h2.2.2;unfold fK.sJ at hs
  by_cases g:eF (dv (hI t)) (0,0)<0
  ·have:=Bj.1 g;grind
  ·rw[if_neg g,if_neg (by rw[Aw hz];omega)]at hs;exact hs rfl
 have n2:(dv (hI t)).1≠0:=fun hz=>by
  have:=Eh.1 (Aw hz);have o:=kX.1 h2.2.2;unfold fK.sJ at hs;rw[if_neg (by rw[Aw hz];omega)]at hs
  by_cases g:0<eF (dv (gZ t)) (0,0)
  ·have:=xS.1 g;grind
  ·rw[if_neg g]at hs;exact hs rfl
 show aB (fK.sJ (dv (gZ t)) (dv (hI t))==0) _ _=_;rw[bN hs];have p1:=h1.1.vD;have p2:=h1.2.1.vD;have p3:=h2.1.vD;have p4:=h2.2.1.vD;unfold Ki Kj at *
 by_cases c:fK.sJ (dv (gZ t)) (dv (hI t))=-1
 ·rw[show(fK.sJ (dv (gZ t)) (dv (hI t))==-1)=true from beq_iff_eq.2 c,cond_true]at i1 i2;show aB (fK.sJ (dv (gZ t)) (dv (hI t))==-1) _ _=_;rw[cO c,gP h1];simp only[aG];rw[gP h2];rw[show(fK.sJ (dv (gZ t)) (dv (hI t))==-1)=true from beq_iff_eq.2 c,cond_true,cond_true];have e:=J hp (dG p2.Fy) (dG p1.Fy) (dG p4.Fy) (dG p3.Fy);rw[dU,dU,dU,dU]at e;dsimp only at e;exact e (by omega) (by omega) (cell p2.Fy (by dsimp only;rw[cCC];exact l2)) (cell p1.Fy (by dsimp only;rw[cCC];exact l1)) (cell p4.Fy (by dsimp only;rw[cCC];exact l4)) (cell p3.Fy (by dsimp only;rw[cCC];exact l3)) i1 i2
 ·rw[show(fK.sJ (dv (gZ t)) (dv (hI t))==-1)=false from beq_eq_false_iff_ne.2 c,cond_false]at i1 i2;show aB (fK.sJ (dv (gZ t)) (dv (hI t))==-1) _ _=_;rw[bN c];rw[show(fK.sJ (dv (gZ t)) (dv (hI t))==-1)=false from beq_eq_false_iff_ne.2 c,cond_false,cond_false];exact J hp h1.1 h1.2.1 h2.1 h2.2.1 n1 n2 (h1.1.Gc l1) (h1.2.1.Gc l2) (h2.1.Gc l3) (h2.2.1.Gc l4) i1 i2
def aJ:dK:=orc3 yJ yJ (pN .i64) sp
theorem ok:OK 119 aJ:=(eZ E aE (aA yB.ok (aA fK.ok (aA jY.ok (aA Mu.ok (aA Nd.ok (aA aAV.ok (aA Xj.ok aD))))))) func119).yK rfl spec
end iS
namespace VTurned
def E:=mE [(20,jY.aJ)] 29 [16] [(2,[3,4,6,7,11,12])] []
def aE:=bd f212
theorem aX:Nk E aE:=nk
def L2 a b c d e f g h i j k l m n o p q r s t u v:=qV E f212 aE 2 [dM 0 44 [cU a,fU b,cV c,cU d,fU e,cV f],dM 1 44 [cU g,fU h,cV i,cU j,fU k,cV l],dM 2 44 [cU m,sc (slice none 0 0),cV n,cU o,sc (slice none 0 0),cV p],dM 3 44 [cU q,sc (slice none 0 0),cV r,cU s,sc (slice none 0 0),cV t],bP u,bP v]
theorem start a b d e f g h i j k l m c:aH E f212 aE [D.agg [sc (bool a),ints u64 b,sc (int i64 d),sc (bool e),ints u64 f,sc (int i64 g)],D.agg [sc (bool h),ints u64 i,sc (int i64 j),sc (bool k),ints u64 l,sc (int i64 m)],D.s (sc (int i64 c))]=VTurned.L2 a b d e f g h i j k l m false 0 false 0 false 0 false 0 c 0:=eJ aX
theorem lN a b c d e f g h i j k l m n o p q r s t u v:L2 a b c d e f g h i j k l m n o p q r s t u v=letI A:=(a,b,c,d,e,f);letI C:=dv (gZ A);letI B:=dv (hI A);aB (decide (v<u)) (aO (eQ A) (aC (isNeg (-B.fst)) fun w=>aC (M6.dg (-B.fst).natAbs) fun x=>aC B.snd fun y=>aC (isNeg (-C.fst)) fun z=>aC (M6.dg (-C.fst).natAbs) fun aa=>aC C.snd fun ab=>VTurned.L2 g h i j k l w x y z aa ab m n o p q r s t u (i64.wrap (v+1)))) (some [D.agg [sc (bool a),ints u64 b,sc (int i64 c),sc (bool d),ints u64 e,sc (int i64 f)],D.agg [sc (bool g),ints u64 h,sc (int i64 i),sc (bool j),ints u64 k,sc (int i64 l)],D.s (sc (int i64 0))]):=lJ aX
def trn(s c:(Int×Int)×(Int×Int)):Nat->((Int×Int)×(Int×Int))×((Int×Int)×(Int×Int))
 |0=>(s,c)
 |n+1=>trn c (jY.wH s.2,jY.wH s.1) n
def sp(s c:wV)(q:Int):Prop×List D:=(eQ s/\eQ c/\0<=q/\q<=3,[uX (trn (dv (gZ s),dv (hI s)) (dv (gZ c),dv (hI c)) q.toNat).1.1 (trn (dv (gZ s),dv (hI s)) (dv (gZ c),dv (hI c)) q.toNat).1.2,uX (trn (dv (gZ s),dv (hI s)) (dv (gZ c),dv (hI c)) q.toNat).2.1 (trn (dv (gZ s),dv (hI s)) (dv (gZ c),dv (hI c)) q.toNat).2.2,.s (.sc (.int .i64 0))])
theorem aJT{s:wV}(h:eQ s):eQ (mN (jY.wH (dv (hI s))) (jY.wH (dv (gZ s)))):=by
 refine xF h.2.1.vD.Fy h.1.vD.Fy ?_;have:=kX.1 h.2.2;refine kX.2 ?_;unfold jY.wH;rw[oW,oW];grind
theorem L:∀(d k:Nat) (s c:wV),k+d<=1000->eQ s->eQ c->L2 s.1 s.2.1 s.2.2.1 s.2.2.2.1 s.2.2.2.2.1 s.2.2.2.2.2 c.1 c.2.1 c.2.2.1 c.2.2.2.1 c.2.2.2.2.1 c.2.2.2.2.2 false 0 false 0 false 0 false 0 ((k+d:Nat):Int) (k:Int)=some [uX (trn (dv (gZ s),dv (hI s)) (dv (gZ c),dv (hI c)) d).1.1 (trn (dv (gZ s),dv (hI s)) (dv (gZ c),dv (hI c)) d).1.2,uX (trn (dv (gZ s),dv (hI s)) (dv (gZ c),dv (hI c)) d).2.1 (trn (dv (gZ s),dv (hI s)) (dv (gZ c),dv (hI c)) d).2.2,.s (.sc (.int .i64 0))]
 |0,k,s,c,h,h1,h2=>by
  rw[lN,aL];unfold trn;dsimp only;rw[h1.uX,h2.uX]
 |d+1,k,s,c,h,h1,h2=>by
  have e:i64.wrap ((k:Int)+1)=((k+1:Nat):Int):=by rw[wrap_i64];omega
  rw[lN,aP,gP h1];simp only[aG,e];have r:=L d (k+1) c (mN (jY.wH (dv (hI s))) (jY.wH (dv (gZ s)))) (by omega) h2 (aJT h1);rw[oN,oO,show k+1+d=k+(d+1) by omega]at r;exact r
theorem spec:oK E f212 aE yJ yJ (pN .i64) sp:=by
 rintro s c q ⟨h1,h2,q0,q1⟩;refine(start s.1 s.2.1 s.2.2.1 s.2.2.2.1 s.2.2.2.2.1 s.2.2.2.2.2 c.1 c.2.1 c.2.2.1 c.2.2.2.1 c.2.2.2.2.1 c.2.2.2.2.2 q).trans ?_;obtain⟨n,rfl⟩:=cAS q0;have:=L n 0 s c (by omega) h1 h2;rw[bVQ]at this;exact this
def aJ:dK:=orc3 yJ yJ (pN .i64) sp
theorem ok:OK 212 aJ:=(eZ E aE (aA jY.ok aD) func212).yK rfl spec
end VTurned
end W
namespace M
open Go AI W
structure Bx(s:(Int×Int)×(Int×Int))(V W m:Rat):Prop where
 pl:jK s.1
 ph:jK s.2
 bl:bl s.1.1.natAbs<=100000
 bh:M.bl s.2.1.natAbs<=100000
 m0:0<=m
 lo:R.qz s.1+m<=V
 hi:V+m<=R.qz s.2
 wd:R.qz s.2-R.qz s.1<=W
theorem Bx.neg{s:(Int×Int)×(Int×Int)}{V W m:Rat}(h:Bx s V W m):Bx (jY.wH s.2,jY.wH s.1) (-V) W m:=by
 obtain⟨h1,h2,h3,h4,h5,h6,h7,h8⟩:=h;refine⟨h2.Fy,h1.Fy,?_,?_,h5,?_,?_,?_⟩
 ·show M.bl (-s.2.1).natAbs<=_;rw[cCC];exact h4
 ·show M.bl (-s.1.1).natAbs<=_;rw[cCC];exact h3
 ·show R.qz (-s.2.1,s.2.2)+m<=_;rw[oW];grind
 ·show _<=R.qz (-s.1.1,s.1.2);rw[oW];grind
 ·show R.qz (-s.1.1,s.1.2)-R.qz (-s.2.1,s.2.2)<=_;rw[oW,oW];grind
theorem Bx.zA{s:(Int×Int)×(Int×Int)}{V W m:Rat}(h:Bx s V W m):eQ (mN s.1 s.2):=xF h.pl h.ph (kX.2 (by have:=h.lo;have:=h.hi;have:=h.m0;grind))
theorem Bx.trn{s c:(Int×Int)×(Int×Int)}{S C Ws Wc m:Rat}(hs:Bx s S Ws m)(hc:Bx c C Wc m){k:Int} :
  Bx (VTurned.trn s c (k%4).toNat).1 (R.rs k S C) (if k%2=0 then Ws else Wc) m/\Bx (VTurned.trn s c (k%4).toNat).2 (R.rc k S C) (if k%2=0 then Wc else Ws) m:=by
 have h4:k%4=0\/k%4=1\/k%4=2\/k%4=3:=by omega
 unfold R.rs R.rc;rcases h4 with h |h |h |h
 ·have h2:k%2=0:=by omega
  simp[h,h2];exact⟨hs,hc⟩
 ·have h2:k%2=1:=by omega
  simp[h,h2];exact⟨hc,hs.neg⟩
 ·have h2:k%2=0:=by omega
  simp[h,h2];exact⟨hs.neg,hc.neg⟩
 ·have h2:k%2=1:=by omega
  simp[h,h2];have e:s=(jY.wH (jY.wH s.1),jY.wH (jY.wH s.2)):=by
   obtain⟨⟨a,b⟩,c,d⟩:=s;unfold jY.wH;dsimp only;rw[Int.neg_neg,Int.neg_neg]
  refine⟨hc.neg,?_⟩;have:=hs;rw[e]at this;exact this
theorem aRO(up:Bool){z:Int}{v:Rat}{k:Nat}(hk:1<=k)(h:(z:Rat)=v\/(z%2=1/\(z:Rat)-1<v/\v<(z:Rat)+1)) :
  (up=false->(kD.pC up z k:Rat)*((2^k:Nat):Rat)<=v/\v<=(kD.pC up z k:Rat)*((2^k:Nat):Rat)+((2^k:Nat):Rat))/\(up=true->v<=(kD.pC up z k:Rat)*((2^k:Nat):Rat)/\(kD.pC up z k:Rat)*((2^k:Nat):Rat)<=v+((2^k:Nat):Rat)):=by
 obtain⟨c1,c2⟩:=aDQ up z k;have K0:(0:Rat)<((2^k:Nat):Rat):=by exact_mod_cast bYO (by decide)
 rcases h with h |⟨ho,h1,h2⟩
 ·rw[<-h];exact⟨fun hu=>⟨(c1 hu).1,cFS (c1 hu).2⟩,fun hu=>⟨(c2 hu).1,cFS (c2 hu).2⟩⟩
 ·
  have ev:(2:Int)∣((2^k:Nat):Int):=by
   obtain⟨j,rfl⟩:∃j,k=j+1:=⟨k-1,by omega⟩;rw[cAN];exact⟨((2^j:Nat):Int),by push_cast;omega⟩
  have fl:∀w:Int,w%2=1->w/((2^k:Nat):Int)*((2^k:Nat):Int)+1<=w/\w+1<=w/((2^k:Nat):Int)*((2^k:Nat):Int)+((2^k:Nat):Int):=by
   intro w hw;have e:=cEH w ((2^k:Nat):Int);have hp:(0:Int)<((2^k:Nat):Int):=by have:=bYO (n:=k) (show 0<2 by decide);omega
   have m0:=cEI w (show((2^k:Nat):Int)≠0 by omega);have m1:=cEJ w hp;have m2:w%((2^k:Nat):Int)%2=1:=by rw[Int.emod_emod_of_dvd w ev];exact hw
   rw[Int.mul_comm]at e;generalize w/((2^k:Nat):Int)*((2^k:Nat):Int)=P at *;omega
  constructor
  ·rintro rfl;unfold kD.pC;rw[cond_false];obtain⟨f1,f2⟩:=fl z ho;have bUR:((z/((2^k:Nat):Int):Int):Rat)*((2^k:Nat):Rat)+1<=(z:Rat):=by exact_mod_cast f1
   have bUQ:(z:Rat)+1<=((z/((2^k:Nat):Int):Int):Rat)*((2^k:Nat):Rat)+((2^k:Nat):Rat):=by exact_mod_cast f2
   generalize ((z/((2^k:Nat):Int):Int):Rat)*((2^k:Nat):Rat)=P at *;constructor <;> grind
  ·rintro rfl;unfold kD.pC;rw[cond_true];obtain⟨f1,f2⟩:=fl (-z) (by omega);have bUR:((-z/((2^k:Nat):Int):Int):Rat)*((2^k:Nat):Rat)+1<=-(z:Rat):=by exact_mod_cast f1
   have bUQ:-(z:Rat)+1<=((-z/((2^k:Nat):Int):Int):Rat)*((2^k:Nat):Rat)+((2^k:Nat):Rat):=by exact_mod_cast f2
   rw[cIM];have e:-((-z/((2^k:Nat):Int):Int):Rat)*((2^k:Nat):Rat)=-(((-z/((2^k:Nat):Int):Int):Rat)*((2^k:Nat):Rat)):=by grind
   rw[e];generalize ((-z/((2^k:Nat):Int):Int):Rat)*((2^k:Nat):Rat)=P at *;constructor <;> grind
theorem aPH{a b s:Nat}(hb:0<b):∃v:Rat,v*(b:Rat)=2*((a:Rat)*((2^s:Nat):Rat))/\0<=v/\((cC.Us a b s:Rat)=v\/(cC.Us a b s%2=1/\(cC.Us a b s:Rat)-1<v/\v<(cC.Us a b s:Rat)+1)):=by
 have b0:(0:Rat)<(b:Rat):=by exact_mod_cast hb
 have hd:=Nat.div_add_mod (a*2^s) b;have hm:=Nat.mod_lt (a*2^s) hb;have A:(b:Rat)*((a*2^s/b:Nat):Rat)+((a*2^s%b:Nat):Rat)=(a:Rat)*((2^s:Nat):Rat):=by exact_mod_cast hd
 have Mm:((a*2^s%b:Nat):Rat)<(b:Rat):=by exact_mod_cast hm
 have q0:(0:Rat)<=((a*2^s/b:Nat):Rat):=by exact_mod_cast cBX _
 have m0:(0:Rat)<=((a*2^s%b:Nat):Rat):=by exact_mod_cast cBX _
 refine⟨2*((a:Rat)*((2^s:Nat):Rat))/(b:Rat),by grind,?_,?_⟩
 ·refine R.bV b0 ?_;have:(b:Rat)*(2*((a:Rat)*((2^s:Nat):Rat))/(b:Rat))=2*((a:Rat)*((2^s:Nat):Rat)):=by grind
  rw[this,<-A];have:=R.aF (cFS b0) q0;grind
 ·have e:(b:Rat)*(2*((a:Rat)*((2^s:Nat):Rat))/(b:Rat))=2*((b:Rat)*((a*2^s/b:Nat):Rat)+((a*2^s%b:Nat):Rat)):=by rw[A];grind
  generalize 2*((a:Rat)*((2^s:Nat):Rat))/(b:Rat)=v at *;unfold cC.Us
  by_cases hz:a*2^s%b=0
  ·left;rw[if_pos hz,Nat.add_zero,cFU];rw[hz]at e;have z:((0:Nat):Rat)=0:=by norm_cast
   have two:((2:Nat):Rat)=2:=by norm_cast
   rw[z]at e;rw[two];have:(b:Rat)*v=(b:Rat)*(((a*2^s/b:Nat):Rat)*2):=by rw[e];grind
   exact(Rat.le_antisymm (R.bV b0 (by rw[this];exact cGB)) (R.bV b0 (by rw[this];exact cGB))).symm
  ·right;have m1:(1:Rat)<=((a*2^s%b:Nat):Rat):=by exact_mod_cast(show 1<=a*2^s%b by omega)
   rw[if_neg hz];have c:((a*2^s/b*2+1:Nat):Rat)=2*((a*2^s/b:Nat):Rat)+1:=by
    rw[Rat.natCast_add,cFU];have two:((2:Nat):Rat)=2:=by norm_cast
    have one:((1:Nat):Rat)=1:=by norm_cast
    rw[two,one];grind
   rw[c];refine⟨by omega,?_,?_⟩
   ·refine R.qO b0 ?_;rw[e];grind
   ·refine R.qO b0 ?_;rw[e];grind
end M
namespace W
open Go AI M
namespace Db
def E:=mE [(161,Ag.aJ),(67,uU.aJ)] 20 [] [(4,[10,11,12])] []
def aE:=bd f117
theorem aX:Nk E aE:=nk
def L4(a:Nat)(b:Nat->Bool)(c:Nat->List Int)(d:Nat->Int)(e:Nat->Bool)(f:Nat->List Int)(g:Nat->Int) h j:=qV E f117 aE 4 [(A.v (V.one (L.rows 6 a fun i=>[sc (bool (b i)),ints u64 (c i),sc (int i64 (d i)),sc (bool (e i)),ints u64 (f i),sc (int i64 (g i))])),none),bP h,bP j]
theorem start p (a:wV):aH E f117 aE [D.s (sc (int i64 p)),D.rows 6 1 fun i=>[sc (bool a.fst),ints u64 a.snd.fst,sc (int i64 a.snd.snd.fst),sc (bool a.snd.snd.snd.fst),ints u64 a.snd.snd.snd.snd.fst,sc (int i64 a.snd.snd.snd.snd.snd)]]=aO True (aB (!(decide (1<=p)&&decide (p<=70000))) (some [D.s (sc (int i64 1))]) (Db.L4 1 (fun i=>a.fst) (fun i=>a.snd.fst) (fun i=>a.snd.snd.fst) (fun i=>a.snd.snd.snd.fst) (fun i=>a.snd.snd.snd.snd.fst) (fun i=>a.snd.snd.snd.snd.snd) 1 0)):=eJ aX
theorem rZ a b c d e f g h j:L4 a b c d e f g h j=aB (decide (j<h)) (if 0<=j/\j<(a:Int)then aO (eQ (b j.toNat,c j.toNat,d j.toNat,e j.toNat,f j.toNat,g j.toNat)) (Db.L4 a (fun i=>b i) (fun i=>c i) (fun i=>d i) (fun i=>e i) (fun i=>f i) (fun i=>g i) h (i64.wrap (j+1)))else none) (some [D.s (sc (int i64 0))]):=lJ aX
def sp(p:Int)(a:wV):Prop×List D:=(eQ a,[.s (.sc (.int .i64 (if 1<=p/\p<=70000 then 0 else 1)))])
theorem L(n:Nat)(f:Nat->wV)(hn:n<=1000)(hf:∀i,i<n->eQ (f i)):∀d k:Nat,k+d=n->L4 n (fun i=>(f i).1) (fun i=>(f i).2.1) (fun i=>(f i).2.2.1) (fun i=>(f i).2.2.2.1) (fun i=>(f i).2.2.2.2.1) (fun i=>(f i).2.2.2.2.2) (n:Int) (k:Int)=some [D.s (.sc (.int .i64 0))]
 |0,k,h=>by rw[rZ,aL]
 |d+1,k,h=>by
  have e:i64.wrap ((k:Int)+1)=((k+1:Nat):Int):=by rw[wrap_i64];omega
  rw[rZ,aP,aU,bZL,gP (hf k (by omega)),e];exact L n f hn hf d (k+1) (by omega)
theorem spec:gT E f117 aE (pN .i64) (bLX (.pair sB (.pair (sI .u64) (.pair (sN .i64) (.pair sB (.pair (sI .u64) (sN .i64)))))) (false,[],0,false,[],0)) sp:=by
 intro p a h;have hf:∀i,i<1->eQ (a):=fun i hi=>h
 refine(start p a).trans ((gP trivial).trans ?_);unfold sp
 by_cases hp:1<=p/\p<=70000
 ·rw[if_pos hp,decide_eq_true hp.1,decide_eq_true hp.2];exact L 1 (fun _=>a) (by decide) hf 1 0 (by omega)
 ·rw[if_neg hp];have:(decide (1<=p)&&decide (p<=70000))=false:=by
   rw[Bool.and_eq_false_iff,decide_eq_false_iff_not,decide_eq_false_iff_not];omega
  rw[this];rfl
def aJ:dK:=orc2 (pN .i64) (bLX (.pair sB (.pair (sI .u64) (.pair (sN .i64) (.pair sB (.pair (sI .u64) (sN .i64)))))) (false,[],0,false,[],0)) sp
theorem ok:OK 117 aJ:=(eZ E aE (aA Ag.ok (aA uU.ok aD)) func117).mT rfl spec
end Db
namespace aNI
def E:=mE [(203,Ar.aJ),(56,jQ.aJ)] 24 [10] [] []
def aE:=bd f213
theorem aX:Nk E aE:=nk
theorem start a b c:aH E f213 aE [D.agg [sc (bool a),ints u64 b,sc (int i64 c)]]=letI B:=dv (a,b,c);aO (aQ (a,b,c)) (aC (if B.fst=0 then(0:Int)else c+(↑(bl (M6.val b)):Int)-(1:Int)) fun d=>letI C:=i64.wrap ((0:Int)-d);letI A:=bif jQ.Fm B C then jQ.Ng B C else((0:Int),(0:Int));aO (aQ (a,b,c)/\(-9223372036854775808:Int)<=i64.wrap ((0:Int)-d)/\i64.wrap ((0:Int)-d)<9223372036854775808) (aC (M6.dg A.fst.natAbs) fun e=>aC A.snd fun f=>some [D.agg [sc (bool false),ints u64 e,sc (int i64 f)],D.s (sc (int i64 d))])):=eJ aX
def sp(x:gE):Prop×List D:=(aQ x/\(dv x).1≠0,[dD (((dv x).1.natAbs:Nat),1-(bl (dv x).1.natAbs:Nat)),.s (.sc (.int .i64 (bA (dv x))))])
theorem spec:jE E f213 aE iX sp:=by
 rintro x ⟨hx,h0⟩;have he:=hx.2.1;have ha:(dv x).1.natAbs=M6.val x.2.1:=iG (x.1,x.2.1);have hb:=hx.Dh.bl;dsimp only at hb;have hb0:=pD (n:=M6.val x.2.1) (by omega);refine(start x.1 x.2.1 x.2.2).trans ?_;have ht:x.2.2+(bl (M6.val x.2.1):Int)-1=bA (dv x):=by unfold bA;rw[ha];rfl
 have h2:(dv x).2=x.2.2:=rfl;have Nn:jQ.Fm (dv x) (0-bA (dv x))=true:=by
  unfold jQ.Fm;rw[decide_eq_false h0,bXP,decide_eq_true (by omega),decide_eq_true (by omega)];rfl
 have bRH:jQ.Ng (dv x) (0-bA (dv x))=((dv x).1,1-((bl (dv x).1.natAbs:Nat):Int)):=by
  unfold jQ.Ng;rw[if_neg h0];congr 1;unfold bA;omega
 have bIM:isNeg ((((dv x).1.natAbs:Nat):Int))=false:=iO.2 (by omega);simp only[aG];have bKS:¬((dv (x.1,x.2.1,x.2.2)).1=0):=h0;rw[gP hx,if_neg bKS,ht,wrap_i64 (n:=0-bA (dv x)),gP ⟨hx,by omega,by omega⟩,show dv (x.1,x.2.1,x.2.2)=dv x from rfl,Nn,cond_true,bRH];unfold sp dD
 try dsimp only
 rw[bIM,cBF]
def aJ:dK:=orc1 iX sp
theorem ok:OK 213 aJ:=(eZ E aE (aA Ar.ok (aA jQ.ok aD)) func213).pU rfl spec
end aNI
namespace Ev
def E:=mE [(117,Db.aJ),(120,Hb.aJ),(159,fK.aJ),(59,Tq.aJ),(213,aNI.aJ)] 77 [19,41] [(15,[1,9,11])] [15]
def aE:=bd f174
theorem aX:Nk E aE:=nk
def aHO a b c d e f g:=mD E f174 aE 15 [bP a,dM 1 29 [cU b,fU c,cV d],dM 2 29 [cU e,fU f,cV g]]
theorem start a c d e f g b:aH E f174 aE [D.agg [sc (bool a),ints u64 c,sc (int i64 d),sc (bool e),ints u64 f,sc (int i64 g)],D.s (sc (int i64 b))]=letI G:=sc (bool false);letI F:=dv (e,f,g);letI C:=(a,c,d,e,f,g);letI B:=dv (a,c,d);letI A:=bif bI.jW F (-B.fst,B.snd)then bI.nD F (-B.fst,B.snd)else((0:Int),(0:Int));aO (eQ C) (aC (if 1<=b/\b<=70000 then(0:Int)else(1:Int)) fun h=>aB (h !=0) (some [D.s G,D.s (sc (int i64 h))]) (aO (aQ (a,c,d)/\aQ (e,f,g)) (aC (eF B F) fun i=>aB (i==0) (some [D.s (sc (bool true)),D.s (sc (int i64 0))]) (aO (eQ C) (aC (fK.sJ (dv (gZ C)) (dv (hI C))) fun j=>aB (j==0) (some [D.s G,D.s (sc (int i64 0))]) (aO (aQ (e,f,g)/\aQ (a,c,d)) (aC (isNeg A.fst) fun k=>aC (M6.dg A.fst.natAbs) fun l=>aC A.snd fun m=>aC (bif bI.jW F (-B.fst,B.snd)then(0:Int)else(5:Int)) fun n=>aB (n !=0) (some [D.s G,D.s (sc (int i64 n))]) (aB (decide (j<0)) (Ev.aHO b k l m e f g) (Ev.aHO b k l m a c d))))))))):=eJ aX
theorem Nc a b c d e f g:aHO a b c d e f g=letI B:=dv (e,f,g);letI F:=(B.fst.natAbs:Int);letI A:=dv (b,c,d);letI C:=(A.fst.natAbs:Int);aO (aQ (b,c,d)/\A.fst≠0) (aC (isNeg C) fun h=>aC (M6.dg C.natAbs) fun i=>aC ((1:Int)-(↑(bl A.fst.natAbs):Int)) fun j=>aC (bA A) fun k=>aO (aQ (e,f,g)/\B.fst≠0) (aC (isNeg F) fun l=>aC (M6.dg F.natAbs) fun m=>aC ((1:Int)-(↑(bl B.fst.natAbs):Int)) fun n=>aC (bA B) fun o=>aB (i64.wrap (k+a) !=o) (some [D.s (sc (bool (decide (i64.wrap (k+a)<o)))),D.s (sc (int i64 0))]) (aO (aQ (h,i,j)/\aQ (l,m,n)) (aC (eF (dv (h,i,j)) (dv (l,m,n))) fun p=>some [D.s (sc (bool (decide (p<=0)))),D.s (sc (int i64 0))])))):=cJ aX
def aYQ(a b:Int×Int)(p:Int):Bool :=
 bif eF a b==0 then true else bif fK.sJ a b==0 then false else
 bif (bA (bI.nD b (-a.1,a.2))+p) !=bA (bif decide (fK.sJ a b<0)then b else a)then decide (bA (bI.nD b (-a.1,a.2))+p<bA (bif decide (fK.sJ a b<0)then b else a))
 else decide (eF (aGT (bI.nD b (-a.1,a.2))) (aGT (bif decide (fK.sJ a b<0)then b else a))<=0)
def sp(s:wV)(p:Int):Prop×List D:=(eQ s/\(1<=p/\p<=70000)/\bI.jW (dv (hI s)) (-(dv (gZ s)).1,(dv (gZ s)).2)=true,[.s (.sc (.bool (aYQ (dv (gZ s)) (dv (hI s)) p))),.s (.sc (.int .i64 0))])
theorem J{p:Int}{w n:Int×Int}{x:gE}(hp:1<=p/\p<=70000)(hw:jK w)(hn:aQ x)(he:dv x=n)(w0:w.1≠0)(n0:n.1≠0) :
  aHO p (isNeg w.1) (M6.dg w.1.natAbs) w.2 x.1 x.2.1 x.2.2=some [.s (.sc (.bool (bif (bA w+p) !=bA n then decide (bA w+p<bA n)else decide (eF (aGT w) (aGT n)<=0)))),.s (.sc (.int .i64 0))]:=by
 subst he;have c:=dU w;have cx:(x.1,x.2.1,x.2.2)=x:=rfl;have t1:=hw.top;have t2:=hn.vD.top;rw[Nc];simp only[aG,c,cx];rw[gP ⟨dG hw,w0⟩,gP ⟨hn,n0⟩,wrap_i64 (n:=bA w+p)]
 by_cases h:bA w+p=bA (dv x)
 ·rw[gG h];have d1:=dG (aJH hw w0);have d2:=dG (aJH hn.vD n0);have e1:=dU (aGT w);have e2:=dU (aGT (dv x));rw[show((bA w+p) !=bA (dv x))=false from by rw[h];exact bne_self_eq_false _,cond_false];unfold aGT at d1 d2 e1 e2 ⊢;dsimp only at d1 d2 e1 e2 ⊢;rw[gP ⟨d1,d2⟩,e1,e2]
 ·rw[nC h,show((bA w+p) !=bA (dv x))=true from bne_iff_ne.2 h,cond_true]
theorem spec:gT E f174 aE yJ (pN .i64) sp:=by
 rintro s p ⟨h1,hp,ao⟩;have hL:aQ (s.1,s.2.1,s.2.2.1):=h1.1;have hH:aQ (s.2.2.2.1,s.2.2.2.2.1,s.2.2.2.2.2):=h1.2.1;refine(start s.1 s.2.1 s.2.2.1 s.2.2.2.1 s.2.2.2.2.1 s.2.2.2.2.2 p).trans ?_;rw[gP h1,aG,if_pos hp,gG rfl,gP ⟨hL,hH⟩,aG];unfold sp aYQ;dsimp only;unfold gZ hI at *;generalize ha:dv (s.1,s.2.1,s.2.2.1)=a at *;generalize hb:dv (s.2.2.2.1,s.2.2.2.2.1,s.2.2.2.2.2)=b at *
 by_cases c:eF a b=0
 ·rw[cO c,show(eF a b==0)=true from beq_iff_eq.2 c,cond_true]
 ·rw[bN c,show(eF a b==0)=false from beq_eq_false_iff_ne.2 c,cond_false,gP h1,aG]
  by_cases d:fK.sJ a b=0
  ·rw[cO d,show(fK.sJ a b==0)=true from beq_iff_eq.2 d,cond_true]
  ·rw[bN d,show(fK.sJ a b==0)=false from beq_eq_false_iff_ne.2 d,cond_false,gP ⟨hH,hL⟩,ao];simp only[aG,cond_true];rw[gG rfl];have pa:jK a:=ha▸hL.vD;have pb:jK b:=hb▸hH.vD;have pw:=Rf pb (by obtain⟨x1,x2,x3,x4⟩:=pa;exact⟨by dsimp only;rw[cCC];exact x1,x2,fun h=>x3 (by dsimp only at h;omega),fun h=>by dsimp only at h ⊢;have:=x4 (by omega);omega⟩) ao;have w0:=aIR c
   by_cases g:fK.sJ a b<0
   ·have n0:b.1≠0:=fun hz=>by
     have:=Aw hz;unfold fK.sJ at g;rw[aW]at g;split at g <;> omega
    rw[aP g,decide_eq_true g,cond_true];exact J hp pw hH hb w0 n0
   ·have n0:a.1≠0:=fun hz=>by
     have:=Aw hz;unfold fK.sJ at g d;split at g
     ·omega
     ·rw[aW,aW]at d;exact d rfl
    rw[aL g,decide_eq_false g,cond_false];exact J hp pw hL ha w0 n0
def aJ:dK:=orc2 yJ (pN .i64) sp
theorem ok:OK 174 aJ:=(eZ E aE (aA Db.ok (aA Hb.ok (aA fK.ok (aA Tq.ok (aA aNI.ok aD))))) func174).mT rfl spec
end Ev
end W
namespace M
open Go AI W
theorem aPI{a b:Nat}{p:Int}(hp:1<=p)(ha:a≠0)(hb:b≠0):p+3<=(bl (cC.Us a b (cC.Bw p a b)):Nat):=by
 have h1:=Ww ha;have h2:=vG b;have b0:=pD ha;have key:2^(p+1).toNat<=a*2^(cC.Bw p a b)/b:=by
  rw[Nat.le_div_iff_mul_le (by omega)];have e1:2^(p+1).toNat*b<=2^((p+1).toNat+bl b):=by rw[cAQ];exact Nat.mul_le_mul_left _ (Nat.le_of_lt h2)
  have e2:2^(bl a-1+cC.Bw p a b)<=a*2^(cC.Bw p a b):=by rw[cAQ];exact Nat.mul_le_mul_right _ h1
  have e3:2^((p+1).toNat+bl b)<=2^(bl a-1+cC.Bw p a b):=Nat.pow_le_pow_right (by decide) (by unfold cC.Bw;omega);omega
 have:2^(p+2).toNat<=cC.Us a b (cC.Bw p a b):=by
  have e:2^(p+2).toNat=2^(p+1).toNat*2:=by rw[<-cAN];congr 1;omega
  unfold cC.Us;rw[e];generalize a*2^(cC.Bw p a b)/b=Q at *;omega
 have:=(qG (n:=cC.Us a b (cC.Bw p a b)) (k:=(p+2).toNat)).2 this;omega
theorem Qo(b:Bool)(n:Nat):(zs b n:Rat)=(if b then -1 else 1)*(n:Rat):=by
 cases b
 ·show((n:Int):Rat)=_;rw[cGV];simp
 ·show((-(n:Int):Int):Rat)=_;rw[cIM,cGV,if_pos rfl];grind
theorem aSG(z:Int):zs (isNeg z) z.natAbs=z:=by
 cases h:isNeg z with
 |true=>have:=nL.1 h;show -(z.natAbs:Int)=z;omega
 |false=>have:=iO.1 h;show(z.natAbs:Int)=z;omega
theorem It(up:Bool){x y:Int×Int}{p:Int}{q:Rat}(hp:1<=p)(hy:y.1≠0)(hq:q*R.qz y=R.qz x) :
  (up=false->R.qz (aN (cC.uK up p x y).1 (cC.uK up p x y).2)<=q/\q<=R.qz (aN (cC.uK up p x y).1 (cC.uK up p x y).2)+R.pz (2-p)*R.ab q) /\
  (up=true->q<=R.qz (aN (cC.uK up p x y).1 (cC.uK up p x y).2)/\R.qz (aN (cC.uK up p x y).1 (cC.uK up p x y).2)<=q+R.pz (2-p)*R.ab q):=by
 rw[oI];unfold cC.uK cC.bAD;dsimp only;obtain⟨v,v1,v2,v3⟩:=aPH (a:=x.1.natAbs) (b:=y.1.natAbs) (s:=cC.Bw p x.1.natAbs y.1.natAbs) (by omega);have bFZ:=aPI (a:=x.1.natAbs) (b:=y.1.natAbs) hp;have bVG:=R.aM q;generalize hs:cC.Bw p x.1.natAbs y.1.natAbs=s at *;generalize hQ:cC.Us x.1.natAbs y.1.natAbs s=Q at *;obtain⟨e,he⟩:∃e,e=x.2-y.2-(s:Int)-1:=⟨_,rfl⟩;rw[<-he];have pe:=R.dJ e;have vq:q=(if(isNeg x.1 !=isNeg y.1)then -1 else 1)*v*R.pz e:=by
  have aTG:(x.1:Rat)=(if isNeg x.1 then -1 else 1)*(x.1.natAbs:Rat):=by rw[<-Qo,aSG]
  have aKL:(y.1:Rat)=(if isNeg y.1 then -1 else 1)*(y.1.natAbs:Rat):=by rw[<-Qo,aSG]
  have bPF:R.qz y≠0:=aSR hy;have ex:R.pz x.2=2*((2^s:Nat):Rat)*R.pz e*R.pz y.2:=by
   have:x.2=e+y.2+(s:Int)+1:=by omega
   rw[this,R.kF,R.dY,R.jJ];grind
  have e2:((if(isNeg x.1 !=isNeg y.1)then -1 else 1)*v*R.pz e)*R.qz y=R.qz x:=by
   unfold R.qz;rw[ex,aTG,aKL];have:v*(y.1.natAbs:Rat)=2*((x.1.natAbs:Rat)*((2^s:Nat):Rat)):=v1;cases isNeg x.1 <;> cases isNeg y.1 <;> simp <;> grind
  have e3:(q-(if(isNeg x.1 !=isNeg y.1)then -1 else 1)*v*R.pz e)*R.qz y=0:=by grind
  rcases Rat.mul_eq_zero.1 e3 with h |h
  ·grind
  ·exact absurd h bPF
 obtain⟨w,hw⟩:∃w,w=(if(isNeg x.1 !=isNeg y.1)then(-1:Rat)else 1)*v:=⟨_,rfl⟩;rw[<-hw]at vq;obtain⟨z,hz⟩:∃z,z=zs (isNeg x.1 !=isNeg y.1) Q:=⟨_,rfl⟩;rw[<-hz];have bHL:(z:Rat)=w\/(z%2=1/\(z:Rat)-1<w/\w<(z:Rat)+1):=by
  rw[hz,Qo,hw];rcases v3 with h |⟨h1,h2,h3⟩
  ·left;rw[h]
  ·right;refine⟨?_,?_⟩
   ·cases (isNeg x.1 !=isNeg y.1)
    ·show((Q:Nat):Int)%2=1;omega
    ·show(-(Q:Int))%2=1;omega
   ·cases (isNeg x.1 !=isNeg y.1) <;> simp <;> constructor <;> grind
 have za:z.natAbs=Q:=by rw[hz];exact lP _ _
 have bVF:R.ab q=R.ab w*R.pz e:=by rw[vq,R.fI,R.bG (cFS pe)]
 have bOJ:=R.dJ (2-p);unfold cE.nQ
 by_cases c:(bl z.natAbs:Int)-p<=0
 ·rw[if_pos c];dsimp only;have bAU:(z:Rat)=w:=by
   rcases bHL with h |⟨h,_⟩
   ·exact h
   ·exfalso;have Ua:x.1.natAbs≠0:=by
     intro h0;rw[h0]at hQ;have:Q=0:=by
      rw[<-hQ];unfold cC.Us;rw[Nat.zero_mul,Nat.zero_div,Nat.zero_mod,if_pos rfl]
     omega
    have:=bFZ Ua (by omega);rw[za]at c;omega
  have:=R.aF (cFS bOJ) bVG;rw[bAU,<-vq];constructor <;> (intro _;constructor <;> grind)
 ·rw[if_neg c];dsimp only;obtain⟨k,hk⟩:=cAS (show 0<=(bl z.natAbs:Int)-p by omega);rw[hk,bZL,R.dY];obtain⟨c1,c2⟩:=aRO up (z:=z) (v:=w) (k:=k) (by omega) bHL;have lit:((2^k:Nat):Rat)<=R.pz (2-p)*R.ab w:=by
   have Zf:z≠0:=by intro h0;rw[h0]at c;exact c (by show(bl 0:Int)-p<=0;rw[Sv];omega)
   have t1:=(oH (p:=(z,0)) Zf).1;have ez:R.qz (z,0)=(z:Rat):=by unfold R.qz;dsimp only;rw[R.fV];grind
   rw[ez]at t1;have et:bA (z,0)=(bl z.natAbs:Int)-1:=by unfold bA;dsimp only;omega
   rw[et]at t1;have b2:2<=bl z.natAbs:=by omega
   have aw:R.ab (z:Rat)-1<=R.ab w:=by
    rcases bHL with h |⟨_,h1,h2⟩
    ·rw[h];grind
    ·have:=R.Td w ((z:Rat)-w);have:R.ab ((z:Rat)-w)<=1:=by rw[R.bW];constructor <;> grind
     have:w+((z:Rat)-w)=(z:Rat):=by grind
     grind
   have e1:R.pz ((bl z.natAbs:Int)-1)=2*R.pz ((bl z.natAbs:Int)-2):=by rw[<-R.kF];congr 1;omega
   have e2:1<=R.pz ((bl z.natAbs:Int)-2):=by rw[<-R.fV];exact R.cG (by omega)
   have e3:((2^k:Nat):Rat)=R.pz (2-p)*R.pz ((bl z.natAbs:Int)-2):=by rw[<-R.jJ,<-R.lT,<-hk];congr 1;omega
   rw[e3];have:=R.aF (cFS bOJ) (show 0<=R.ab w-R.pz ((bl z.natAbs:Int)-2) by grind);grind
  rw[bVF,vq];have l2:=R.aF (cFS pe) (show 0<=R.pz (2-p)*R.ab w-((2^k:Nat):Rat) by grind);generalize (kD.pC up z k:Rat)=cz at *;generalize ((2^k:Nat):Rat)=K at *;generalize R.pz (2-p)=P2 at *;generalize R.pz e=E at *;generalize R.ab w=aw at *;constructor
  ·intro hu;obtain⟨d1,d2⟩:=c1 hu;have m1:=R.aF (cFS pe) (show 0<=w-cz*K by grind);have m2:=R.aF (cFS pe) (show 0<=cz*K+K-w by grind);constructor <;> grind
  ·intro hu;obtain⟨d1,d2⟩:=c2 hu;have m1:=R.aF (cFS pe) (show 0<=cz*K-w by grind);have m2:=R.aF (cFS pe) (show 0<=w+K-cz*K by grind);constructor <;> grind
theorem aUR(up:Bool){x y:Int×Int}{p:Int}(hp:1<=p/\p<=70000)(bx:bl x.1.natAbs<=100000)(b_y:bl y.1.natAbs<=100000)(ex:-110000<=x.2/\x.2<=1000)(ey:-110000<=y.2/\y.2<=1000) :
  gY (cC.uK up p x y).1 (cC.uK up p x y).2=true/\bl (aN (cC.uK up p x y).1 (cC.uK up p x y).2).1.natAbs<=70001:=by
 unfold cC.uK cC.bAD;dsimp only;have hs:cC.Bw p x.1.natAbs y.1.natAbs<=170002:=by unfold cC.Bw;omega
 have hQ:bl (cC.Us x.1.natAbs y.1.natAbs (cC.Bw p x.1.natAbs y.1.natAbs))<=270006:=by
  have h1:bl (x.1.natAbs*2^(cC.Bw p x.1.natAbs y.1.natAbs))<=270002:=bWK (bS.Jg bx) (by omega);have h2:cC.Us x.1.natAbs y.1.natAbs (cC.Bw p x.1.natAbs y.1.natAbs)<=x.1.natAbs*2^(cC.Bw p x.1.natAbs y.1.natAbs)*2+1:=by
   have:x.1.natAbs*2^(cC.Bw p x.1.natAbs y.1.natAbs)/y.1.natAbs<=x.1.natAbs*2^(cC.Bw p x.1.natAbs y.1.natAbs):=Nat.div_le_self _ _;unfold cC.Us;generalize x.1.natAbs*2^(cC.Bw p x.1.natAbs y.1.natAbs)/y.1.natAbs=A at *;generalize x.1.natAbs*2^(cC.Bw p x.1.natAbs y.1.natAbs)=B at *;split <;> omega
  refine bWK (fY h2) (bWK (Bk _ _) ?_);have h3:=Qc (x.1.natAbs*2^(cC.Bw p x.1.natAbs y.1.natAbs)) 2;have h4:bl 2=2:=rfl;have h5:bl 1=1:=rfl;omega
 generalize cC.Bw p x.1.natAbs y.1.natAbs=s at *;generalize cC.Us x.1.natAbs y.1.natAbs s=Q at *;have hz:(zs (isNeg x.1 !=isNeg y.1) Q).natAbs=Q:=lP _ _;rw[<-hz]at hQ;generalize zs (isNeg x.1 !=isNeg y.1) Q=z at *;unfold cE.nQ;split
 ·dsimp only;exact⟨gQ (by omega) (by omega),bWK (vE _ _) (by omega)⟩
 ·dsimp only;have hc:=Zx up z ((bl z.natAbs:Int)-p).toNat p.toNat (by omega);generalize kD.pC up z ((bl z.natAbs:Int)-p).toNat=c at *;exact⟨gQ (by omega) (by omega),bWK (vE _ _) (by omega)⟩
theorem Wm{a b u v S C V ρ m q1 q2:Rat}(ha:a+m<=S)(hb:S+m<=b)(aOH:b-a<=ρ*S)(hu:u+m<=C)(hv:C+m<=v)(huv:v-u<=ρ*C)(m0:0<=m)(S0:0<S)(C0:0<C)(C1:C<=1)(r0:0<=ρ)(r1:ρ<=1/64)(hV:V*C=S)(h1:q1*v=a)(h2:q2*u=b) :
  q1+m<=V/\V+m<=q2/\q2<=V+3*ρ*V/\V-2*ρ*V<=q1/\0<V/\0<=q1:=by
 have rS:=R.aF (cFS S0) (show 0<=1/64-ρ by grind);have rC:=R.aF (cFS C0) (show 0<=1/64-ρ by grind);have a0:0<a:=by grind
 have u0:0<u:=by grind
 have v0:0<v:=by grind
 have V0:0<V:=by
  refine Rat.not_le.1 fun hn=>?_
  have:=R.aF (show 0<=-V by grind) (cFS C0);grind
 have bGM:0<q1:=by
  refine Rat.not_le.1 fun hn=>?_
  have:=R.aF (show 0<=-q1 by grind) (cFS v0);grind
 have bPR:0<q2:=by
  refine Rat.not_le.1 fun hn=>?_
  have:=R.aF (show 0<=-q2 by grind) (cFS u0);grind
 have mC:=R.aF m0 (show 0<=1-C by grind);have rV:=R.aF r0 (cFS V0);have bLW:=R.aF rV (cFS C0);have rr:=R.aF bLW (show 0<=1/64-ρ by grind);have rq:=R.aF bLW r0;refine⟨?_,?_,?_,?_,V0,cFS bGM⟩
 ·refine R.bV C0 ?_;have:=R.aF (cFS bGM) (show 0<=v-C by grind);grind
 ·refine R.bV C0 ?_;have:=R.aF (cFS bPR) (show 0<=C-u by grind);grind
 ·refine R.bV u0 ?_;have h:=R.aF (show 0<=V+3*ρ*V by grind) (show 0<=u-(C-ρ*C) by grind);have e:(V+3*ρ*V)*(C-ρ*C)=V*C+2*(ρ*V*C)-3*(ρ*V*C*ρ):=by grind
  have e2:ρ*S=ρ*V*C:=by rw[<-hV];grind
  grind
 ·refine R.bV v0 ?_;have h:=R.aF (show 0<=V-2*ρ*V by have:=R.aF (cFS V0) (show 0<=1/64-ρ by grind);grind) (show 0<=(C+ρ*C)-v by grind);have e:(V-2*ρ*V)*(C+ρ*C)=V*C-ρ*V*C-2*(ρ*V*C*ρ):=by grind
  have e2:ρ*S=ρ*V*C:=by rw[<-hV];grind
  grind
theorem aDX{p:Int×Int}:decide (eF p (0,0)<0)=decide (R.qz p<0):=by
 have h:=Bj (p:=p) (q:=(0,0));rw[R.oC (p:=(0,0)) rfl]at h
 by_cases c:R.qz p<0
 ·rw[decide_eq_true c,decide_eq_true (h.2 c)]
 ·rw[decide_eq_false c,decide_eq_false fun hh=>c (h.1 hh)]
def Ie(p:Int×Int):Prop:=bl p.1.natAbs<=100000/\-110000<=p.2/\p.2<=1000
theorem zE{p:Int×Int}(hb:bl p.1.natAbs<=100000)(yT:p.1≠0)(h0:R.pz (-1300)<=R.ab (R.qz p))(h1:R.ab (R.qz p)<=2):Ie p:=by
 have a:=Cl yT h0;have b:bA p<=1:=Dl yT (by rw[R.aJG];exact h1);have c:=pD (n:=p.1.natAbs) (by omega);unfold bA at a b;exact⟨hb,by omega,by omega⟩
theorem aCC{s c:(Int×Int)×(Int×Int)}{S C V ρ m:Rat}{p:Int}(hs:Bx s S (ρ*R.ab S) m)(hc:Bx c C (ρ*R.ab C) m)(S0:S≠0)(C0:0<C)(C1:C<=1)(r0:0<=ρ)(r1:ρ<=1/64)(hV:V*C=S)(hp:4<=p/\p<=70000)
  (z1:Ie s.1) (z2:Ie s.2) (z3:Ie c.1) (z4:Ie c.2) :
  gY (iS.aGU p s.1 c.1 c.2).1 (iS.aGU p s.1 c.1 c.2).2=true/\gY (iS.aGV p s.2 c.1 c.2).1 (iS.aGV p s.2 c.1 c.2).2=true /\
  Bx (aN (iS.aGU p s.1 c.1 c.2).1 (iS.aGU p s.1 c.1 c.2).2,aN (iS.aGV p s.2 c.1 c.2).1 (iS.aGV p s.2 c.1 c.2).2) V ((5*ρ+3*R.pz (2-p))*R.ab V) m:=by
 obtain⟨s1,s2,s3,s4,m0,s6,s7,s8⟩:=hs;obtain⟨c1,c2,c3,c4,_,c6,c7,c8⟩:=hc;rw[R.bG (cFS C0)]at c8;have rC:=R.aF (cFS C0) (show 0<=1/64-ρ by grind);have u0:0<R.qz c.1:=by grind
 have v0:0<R.qz c.2:=by grind
 have un:c.1.1≠0:=Hj (by grind);have vn:c.2.1≠0:=Hj (by grind);have e2:=R.dJ (2-p);have e3:R.pz (2-p)<=1/4:=by
  have h:=R.cG (show 2-p<=-2 by omega);have h2:=R.xG 2;rw[show -((2:Nat):Int)=-2 by rfl]at h2;rw[h2]at h;have h3:R.hf 2=1/4:=by simp[R.hf];grind
  grind
 have vD:∀up (x y:Int×Int),Ie x->Ie y->gY (cC.uK up p x y).1 (cC.uK up p x y).2=true/\jK (aN (cC.uK up p x y).1 (cC.uK up p x y).2)/\bl (aN (cC.uK up p x y).1 (cC.uK up p x y).2).1.natAbs<=100000:=by
  intro up x y hx hy;obtain⟨h1,h2⟩:=aUR up (x:=x) (y:=y) (p:=p) (by omega) hx.1 hy.1 hx.2 hy.2;refine⟨h1,⟨by omega,?_,fun h=>Cr h,fun h=>Dv h⟩,by omega⟩;unfold gY at h1;unfold aN;split
  ·dsimp only;omega
  ·rename_i yT;rw[decide_eq_false yT,bXP,bVU]at h1;exact⟨of_decide_eq_true h1.1,of_decide_eq_true h1.2⟩
 have aMI:∀a b:Rat,b≠0->a/b*b=a:=fun a b h=>by grind
 unfold iS.aGU iS.aGV;rw[aDX,aDX]
 by_cases hS:0<S
 ·rw[R.bG (cFS hS)]at s8;have rS:=R.aF (cFS hS) (show 0<=1/64-ρ by grind);rw[decide_eq_false (show ¬R.qz s.1<0 by grind),decide_eq_false (show ¬R.qz s.2<0 by grind),cond_false,cond_false];obtain⟨d1,d2,d3,d4,V0,q0⟩:=Wm (q1:=R.qz s.1/R.qz c.2) (q2:=R.qz s.2/R.qz c.1) s6 s7 s8 c6 c7 c8 m0 hS C0 C1 r0 r1 hV (aMI _ _ (by grind)) (aMI _ _ (by grind));have n1:=(It false (x:=s.1) (y:=c.2) (p:=p) (q:=R.qz s.1/R.qz c.2) (by omega) vn (aMI _ _ (by grind))).1 rfl;have n2:=(It true (x:=s.2) (y:=c.1) (p:=p) (q:=R.qz s.2/R.qz c.1) (by omega) un (aMI _ _ (by grind))).2 rfl;obtain⟨i1,p1,b1⟩:=vD false s.1 c.2 z1 z4;obtain⟨i2,p2,b2⟩:=vD true s.2 c.1 z2 z3;rw[R.bG q0]at n1;rw[R.bG (show 0<=R.qz s.2/R.qz c.1 by grind)]at n2;refine⟨i1,i2,p1,p2,b1,b2,m0,by grind,by grind,?_⟩;rw[R.bG (cFS V0)];generalize R.qz s.1/R.qz c.2=q1 at *;generalize R.qz s.2/R.qz c.1=q2 at *;have k1:=R.aF (cFS e2) (show 0<=V+3*ρ*V-q2 by grind);have k2:=R.aF (cFS e2) (show 0<=V-q1 by grind);have k3:=R.aF (R.aF (cFS e2) (cFS V0)) (show 0<=1/64-ρ by grind);dsimp only;grind
 ·have bNZ:0 < -S:=by grind
  have eS:R.ab S=-S:=by unfold R.ab;rw[if_neg (by grind)]
  rw[eS]at s8;have rS:=R.aF (cFS bNZ) (show 0<=1/64-ρ by grind);rw[decide_eq_true (show R.qz s.1<0 by grind),decide_eq_true (show R.qz s.2<0 by grind),cond_true,cond_true];have f1:-(R.qz s.2/R.qz c.2)*R.qz c.2=-R.qz s.2:=by have:=aMI (R.qz s.2) (R.qz c.2) (by grind);grind
  have f2:-(R.qz s.1/R.qz c.1)*R.qz c.1=-R.qz s.1:=by have:=aMI (R.qz s.1) (R.qz c.1) (by grind);grind
  obtain⟨d1,d2,d3,d4,V0,q0⟩:=Wm (V:=-V) (a:=-R.qz s.2) (b:=-R.qz s.1) (S:=-S) (q1:=-(R.qz s.2/R.qz c.2)) (q2:=-(R.qz s.1/R.qz c.1)) (by grind) (by grind) (by grind) c6 c7 c8 m0 bNZ C0 C1 r0 r1 (by grind) f1 f2;have n1:=(It false (x:=s.1) (y:=c.1) (p:=p) (q:=R.qz s.1/R.qz c.1) (by omega) un (aMI _ _ (by grind))).1 rfl;have n2:=(It true (x:=s.2) (y:=c.2) (p:=p) (q:=R.qz s.2/R.qz c.2) (by omega) vn (aMI _ _ (by grind))).2 rfl;obtain⟨i1,p1,b1⟩:=vD false s.1 c.1 z1 z3;obtain⟨i2,p2,b2⟩:=vD true s.2 c.2 z2 z4;rw[<-R.iJ,R.bG (show 0<=-(R.qz s.1/R.qz c.1) by grind)]at n1;rw[<-R.iJ,R.bG q0]at n2;refine⟨i1,i2,p1,p2,b1,b2,m0,by grind,by grind,?_⟩;rw[<-R.iJ,R.bG (cFS V0)];generalize R.qz s.2/R.qz c.2=q1 at *;generalize R.qz s.1/R.qz c.1=q2 at *;have k1:=R.aF (cFS e2) (show 0<=-V+3*ρ*-V+q2 by grind);have k2:=R.aF (cFS e2) (show 0<=-V+q1 by grind);have k3:=R.aF (R.aF (cFS e2) (cFS V0)) (show 0<=1/64-ρ by grind);dsimp only;grind
theorem Ik{p:Int×Int}(h:Ie p):Ie (jY.wH p):=by
 obtain⟨a,b⟩:=h;refine⟨?_,b⟩;show bl (-p.1).natAbs<=_;rw[cCC];exact a
theorem Ym{a b:Int×Int}(h:0<R.qz a)(aOH:R.qz a<=R.qz b):fK.sJ a b=1:=by
 unfold fK.sJ;have z:R.qz (0,0)=0:=R.oC rfl;rw[if_neg (fun hh=>by have:=Bj.1 hh;grind),if_pos (xS.2 (by grind))]
theorem Yn{a b:Int×Int}(h:R.qz b<0):fK.sJ a b=-1:=by
 unfold fK.sJ;have z:R.qz (0,0)=0:=R.oC rfl;rw[if_pos (Bj.2 (by grind))]
theorem aJF{s c:(Int×Int)×(Int×Int)}{S C V ρ m:Rat}{p:Int}(hs:Bx s S (ρ*R.ab S) m)(hc:Bx c C (ρ*R.ab C) m)(S0:S≠0)(C0:C≠0)(C1:R.ab C<=1)(r0:0<=ρ)(r1:ρ<=1/64)(hV:V*C=S)(hp:4<=p/\p<=70000)
  (z1:Ie s.1) (z2:Ie s.2) (z3:Ie c.1) (z4:Ie c.2) :
  fK.sJ c.1 c.2≠0/\gY (iS.Ki p s.1 s.2 c.1 c.2).1 (iS.Ki p s.1 s.2 c.1 c.2).2=true/\gY (iS.Kj p s.1 s.2 c.1 c.2).1 (iS.Kj p s.1 s.2 c.1 c.2).2=true /\
  Bx (aN (iS.Ki p s.1 s.2 c.1 c.2).1 (iS.Ki p s.1 s.2 c.1 c.2).2,aN (iS.Kj p s.1 s.2 c.1 c.2).1 (iS.Kj p s.1 s.2 c.1 c.2).2) V ((5*ρ+3*R.pz (2-p))*R.ab V) m:=by
 have lo:=hc.lo;have hi:=hc.hi;have m0:=hc.m0;have wd:=hc.wd
 by_cases c0:0<C
 ·rw[R.bG (cFS c0)]at C1 wd;have rC:=R.aF (cFS c0) (show 0<=1/64-ρ by grind);have sg:=Ym (a:=c.1) (b:=c.2) (by grind) (by grind);unfold iS.Ki iS.Kj;rw[sg,show((1:Int)==-1)=false from rfl];simp only[cond_false];exact⟨by decide,aCC hs hc S0 c0 C1 r0 r1 hV hp z1 z2 z3 z4⟩
 ·have e:R.ab C=-C:=by unfold R.ab;rw[if_neg (by grind)]
  rw[e]at C1 wd;have rC:=R.aF (show 0<=-C by grind) (show 0<=1/64-ρ by grind);have sg:=Yn (a:=c.1) (b:=c.2) (by grind);unfold iS.Ki iS.Kj;rw[sg,show((-1:Int)==-1)=true from rfl];simp only[cond_true];have rP:=hs.neg;have bJR:=hc.neg;rw[<-R.iJ]at rP bJR;have s0:-S≠0:=by grind
  have c1:0 < -C:=by grind
  have v1:V*-C=-S:=by grind
  have q:=aCC rP bJR s0 c1 C1 r0 r1 v1 hp (Ik z2) (Ik z1) (Ik z4) (Ik z3);dsimp only at q;exact⟨by decide,q⟩
theorem aCK{s:(Int×Int)×(Int×Int)}{V W m:Rat}{n:Int}(pl:jK s.1)(ph:jK s.2)(m0:0<=m)(lo:R.qz s.1+m<=V)(hi:V+m<=R.qz s.2)(wd:R.qz s.2-R.qz s.1<=W)(hn:1<=n/\n<=70000)(h1:R.ab (R.qz s.1)<=R.pz 1100)(h2:R.ab (R.qz s.2)<=R.pz 1100) :
  wZ false s.1 n=true/\wZ true s.2 n=true/\Bx (shD false s.1 n,shD true s.2 n) V (W+R.pz (1-n)*(R.ab (R.qz s.1)+R.ab (R.qz s.2))) m:=by
 have aSZ:∀{p:Int×Int},jK p->R.ab (R.qz p)<=R.pz 1100->bGC p:=by
  intro p hp hv;refine⟨hp,?_⟩
  by_cases h0:p.1=0
  ·have hb:M.bl p.1.natAbs=0:=by rw[h0];rfl
   have:=hp.2.2.1 h0;omega
  ·have:=Dl h0 hv;unfold bA at this;omega
 obtain⟨a1,a2⟩:=Oy (up:=false) (n:=n) (aSZ pl h1) hn.1;obtain⟨a3,a4⟩:=Oy (up:=true) (n:=n) (aSZ ph h2) hn.1;have n1:=(Fk false s.1 hn.1).1 rfl;have n2:=(Fk true s.2 hn.1).2 rfl;have b1:=zF false s.1 n.toNat;have b2:=zF true s.2 n.toNat;rw[show((n.toNat:Nat):Int)=n by omega]at b1 b2;exact⟨a1,a3,a2,a4,by dsimp only;omega,by dsimp only;omega,m0,by dsimp only;grind,by dsimp only;grind,by dsimp only;grind⟩
theorem Yw{s:(Int×Int)×(Int×Int)}{V W m:Rat}{n:Int}(h:Bx s V W m)(hn:1<=n/\n<=70000)(h1:R.ab (R.qz s.1)<=R.pz 1100)(h2:R.ab (R.qz s.2)<=R.pz 1100) :
  wZ false s.1 n=true/\wZ true s.2 n=true/\Bx (shD false s.1 n,shD true s.2 n) V (W+R.pz (1-n)*(R.ab (R.qz s.1)+R.ab (R.qz s.2))) m :=
 aCK h.pl h.ph h.m0 h.lo h.hi h.wd hn h1 h2
theorem aOW{a b:Int×Int}{p:Int}(aOH:R.qz a<=R.qz b)(h:(0<R.qz a/\(R.qz b-R.qz a)*R.pz p<=R.qz a)\/(R.qz b<0/\(R.qz b-R.qz a)*R.pz p<=-R.qz b)):Ev.aYQ a b p=true:=by
 unfold Ev.aYQ
 by_cases he:eF a b=0
 ·rw[he];rfl
 ·rw[show(eF a b==0)=false from beq_eq_false_iff_ne.2 he,cond_false];obtain⟨n,hn,sg,hw⟩:∃n:Int×Int,(bif decide (fK.sJ a b<0)then b else a)=n/\fK.sJ a b≠0/\(n.1≠0/\(R.qz b-R.qz a)*R.pz p<=R.ab (R.qz n)):=by
   rcases h with ⟨h1,h2⟩ |⟨h1,h2⟩
   ·rw[Ym h1 aOH];exact⟨a,rfl,by decide,Hj (by grind),by rw[R.bG (cFS h1)];exact h2⟩
   ·rw[Yn h1];refine⟨b,rfl,by decide,Hj (by grind),?_⟩;have:R.ab (R.qz b)=-R.qz b:=by unfold R.ab;rw[if_neg (by grind)]
    rw[this];exact h2
  rw[show(fK.sJ a b==0)=false from beq_eq_false_iff_ne.2 sg,cond_false,hn];have w0:(bI.nD b (-a.1,a.2)).1≠0:=aIR he;have wq:R.qz (bI.nD b (-a.1,a.2))=R.qz b-R.qz a:=by rw[Re,oW];grind
  generalize bI.nD b (-a.1,a.2)=w at *;obtain⟨n0,hw⟩:=hw;rw[<-wq]at hw;have wp:0<=R.qz w:=by rw[wq];grind
  obtain⟨t1,t2⟩:=oH w0;obtain⟨u1,u2⟩:=oH n0;rw[R.bG wp]at t1 t2;have pp:=R.dJ p
  by_cases ht:bA w+p=bA n
  ·rw[show(bA w+p !=bA n)=false from by rw[ht];exact bne_self_eq_false _,cond_false];refine decide_eq_true (kX.2 ?_);have un:∀x:Int×Int,R.qz (aGT x)*R.pz (bA x)=R.ab (R.qz x):=by
    intro x;rw[Qf];unfold aGT R.qz;dsimp only;rw[cGV,cGT,<-R.jJ];congr 2;unfold bA;omega
   have e1:=un w;have e2:=un n;rw[R.bG wp]at e1;rw[<-ht,R.jJ]at e2;refine R.bV (q:=R.pz (bA w)*R.pz p) (Rat.mul_pos (R.dJ _) pp) ?_;have e3:R.qz (aGT w)*(R.pz (bA w)*R.pz p)=R.qz w*R.pz p:=by rw[<-cGT,e1]
   grind
  ·rw[show(bA w+p !=bA n)=true from bne_iff_ne.2 ht,cond_true];refine decide_eq_true ?_;have:R.pz (bA w+p)<R.pz (bA n+1):=by
    rw[R.jJ];have:=R.aF (show 0<=R.qz w-R.pz (bA w) by grind) (cFS pp);grind
   have:=R.wF.1 this;omega
end M
namespace W
open Go AI M
namespace qP
def Ot(x:gE):Prop:=aQ x/\((dv x).1≠0->eF (((dv x).1.natAbs:Nat),(dv x).2) (1,0)<=0/\-524288<=(dv x).2+(bl (dv x).1.natAbs:Nat)-1)
end qP
namespace pK
def E:=mE [(45,lO.aJ),(158,Ih.aJ),(14,aNY.aJ),(203,Ar.aJ)] 62 [] [(10,[30,31,32]),(4,[1,20,21,22]),(3,[1])] [3]
def aE:=bd f201
theorem aX:Nk E aE:=nk
def J3(a:Nat)(b:Nat->Bool)(c:Nat->List Int)(d:Nat->Int):=mD E f201 aE 3 [(A.v (V.one (L.rows 3 a fun i=>[sc (bool (b i)),ints u64 (c i),sc (int i64 (d i))])),none)]
def L4(a:Nat)(b:Nat->Bool)(c:Nat->List Int)(d:Nat->Int)(e:Nat)(f:Nat->Bool)(g:Nat->List Int)(h:Nat->Int) j k:=qV E f201 aE 4 [(A.v (V.one (L.rows 3 a fun i=>[sc (bool (b i)),ints u64 (c i),sc (int i64 (d i))])),none),(A.v (V.one (L.rows 3 e fun i=>[sc (bool (f i)),ints u64 (g i),sc (int i64 (h i))])),none),bP j,bP k]
def He(a:Nat)(b:Nat->Bool)(c:Nat->List Int)(d:Nat->Int) e f:=qV E f201 aE 10 [(A.v (V.one (L.rows 3 a fun i=>[sc (bool (b i)),ints u64 (c i),sc (int i64 (d i))])),none),bP e,bP f]
theorem start p (a:gE) (b:gE):aH E f201 aE [D.s (sc (int i64 p)),D.rows 3 2 fun i=>[sc (bool (t2 a b i).fst),ints u64 (t2 a b i).snd.fst,sc (int i64 (t2 a b i).snd.snd)]]=letI A:=some [D.s (sc (int i64 1))];aB (decide (p<1)) A (aB (decide (67000<p)) A (pK.J3 2 (fun i=>(t2 a b i).fst) (fun i=>(t2 a b i).snd.fst) fun i=>(t2 a b i).snd.snd)):=eJ aX
theorem gU a b c d:J3 a b c d=pK.L4 a (fun i=>b i) (fun i=>c i) (fun i=>d i) a (fun i=>b i) (fun i=>c i) (fun i=>d i) (a:Int) 0:=cJ aX
theorem rZ a b c d e f g h j k:L4 a b c d e f g h j k=aB (decide (k<j)) (if 0<=k/\k<(e:Int)then aO (aQ (f k.toNat,g k.toNat,h k.toNat)) (pK.L4 a (fun i=>b i) (fun i=>c i) (fun i=>d i) e (fun i=>f i) (fun i=>g i) (fun i=>h i) j (i64.wrap (k+1)))else none) (pK.He a (fun i=>b i) (fun i=>c i) (fun i=>d i) (a:Int) 0):=lJ aX
theorem qQ a b c d e f:He a b c d e f=letI F:=some [D.s (sc (int i64 5))];letI C:=(b f.toNat,c f.toNat,d f.toNat);letI B:=(false,c f.toNat,d f.toNat);letI A:=(isNeg (aN 1 0).fst,M6.dg (aN 1 0).fst.natAbs,(aN 1 0).snd);aB (decide (f<e)) (if 0<=f/\f<(a:Int)then aB ((↑(c f.toNat).length:Int)==(0:Int)) (pK.He a (fun i=>b i) (fun i=>c i) (fun i=>d i) e (i64.wrap (f+1))) (aO ((-9223372036854775808:Int)<=(1:Int)/\(1:Int)<(9223372036854775808:Int)) (aO (aQ B/\aQ A) (aO (aQ C) (aB (decide (0<lH (bI.mY (dv B) (dv A)) (bI.mW (dv B) (dv A)))) F (aB (decide ((if(dv C).fst=0 then(0:Int)else d f.toNat+(↑(bl (M6.val (c f.toNat))):Int)-(1:Int))<(-524288:Int))) F (pK.He a (fun i=>b i) (fun i=>c i) (fun i=>d i) e (i64.wrap (f+1))))))))else none) (some [D.s (sc (int i64 0))]):=lJ aX
abbrev Ot:=qP.Ot
def sp(p:Int)(a:gE×gE):Prop×List D:=((1<=p/\p<=67000)/\Ot a.1/\Ot a.2,[.s (.sc (.int .i64 0))])
theorem LB(n:Nat)(f:Nat->gE)(hn:n<=1000)(hf:∀i,i<n->Ot (f i)):∀d k:Nat,k+d=n->He n (fun i=>(f i).1) (fun i=>(f i).2.1) (fun i=>(f i).2.2) (n:Int) (k:Int)=some [.s (.sc (.int .i64 0))]
 |0,k,h=>by rw[qQ,aL]
 |d+1,k,h=>by
  have e:i64.wrap ((k:Int)+1)=((k+1:Nat):Int):=by rw[wrap_i64];omega
  have r:=LB n f hn hf d (k+1) (by omega);obtain⟨hx,ht⟩:=hf k (by omega);have hz:=M6.dZ hx.Hv;have ha:(dv (f k)).1.natAbs=M6.val (f k).2.1:=iG ((f k).1,(f k).2.1);rw[qQ,aP,aU,bZL,e]
  by_cases h0:(f k).2.1.length=0
  ·rw[cO];exact r
  ·have hv:(dv (f k)).1≠0:=fun hc=>h0 (hz.2 (by omega))
   obtain⟨t1,t2⟩:=ht hv;have n1:aN 1 0=(1,0):=by decide +kernel
   have pn:jK (1,0):=⟨by decide +kernel,⟨by decide,by decide⟩,fun h=>absurd h (by decide),fun _=>by decide⟩;have v1:=dU ((1,0):Int×Int);have ok:aQ (false,(f k).2.1,(f k).2.2):=⟨⟨hx.1.1,fun hf=>(by cases hf),hx.1.len⟩,hx.2⟩;have vx:dv (false,(f k).2.1,(f k).2.2)=((((dv (f k)).1.natAbs:Nat):Int),(dv (f k)).2):=by rw[ha];rfl
   have bSV:((f k).1,(f k).2.1,(f k).2.2)=f k:=rfl;simp only[n1,v1,vx,bSV];rw[bN,gP ⟨by decide,by decide⟩,gP ⟨ok,dG pn⟩,gP hx];have bPK:¬0<lH (bI.mY ((((dv (f k)).1.natAbs:Nat):Int),(dv (f k)).2) (1,0)) (bI.mW ((((dv (f k)).1.natAbs:Nat):Int),(dv (f k)).2) (1,0)):=Int.not_lt.2 t1;have bPJ:¬(f k).2.2+((bl (M6.val (f k).2.1):Nat):Int)-1 < -524288:=by
    rw[ha]at t2;have:(dv (f k)).2=(f k).2.2:=rfl;omega
   rw[aL bPK,if_neg hv,aL bPJ];exact r
theorem LA(n:Nat)(f:Nat->gE)(hn:n<=1000)(hf:∀i,i<n->Ot (f i)):∀d k:Nat,k+d=n->L4 n (fun i=>(f i).1) (fun i=>(f i).2.1) (fun i=>(f i).2.2) n (fun i=>(f i).1) (fun i=>(f i).2.1) (fun i=>(f i).2.2) (n:Int) (k:Int)=some [.s (.sc (.int .i64 0))]
 |0,k,h=>by rw[rZ,aL];exact LB n f hn hf n 0 (by omega)
 |d+1,k,h=>by
  have e:i64.wrap ((k:Int)+1)=((k+1:Nat):Int):=by rw[wrap_i64];omega
  rw[rZ,aP,aU,bZL,gP (hf k (by omega)).1,e];exact LA n f hn hf d (k+1) (by omega)
theorem spec:gT E f201 aE (pN .i64) (bEQ (.pair sB (.pair (sI .u64) (sN .i64))) (false,[],0)) sp:=by
 rintro p a ⟨⟨p0,p1⟩,h⟩;have hf:∀i,i<2->Ot (t2 a.1 a.2 i):=fun i hi=>by
  obtain rfl |rfl:i=0\/i=1:=by omega
  ·exact h.1
  ·exact h.2
 refine(start p a.1 a.2).trans ?_;rw[aL,aL,gU];exact LA 2 (fun i=>t2 a.1 a.2 i) (by decide) hf 2 0 (by omega)
def aJ:dK:=orc2 (pN .i64) (bEQ (.pair sB (.pair (sI .u64) (sN .i64))) (false,[],0)) sp
theorem ok:OK 201 aJ:=(eZ E aE (aA lO.ok (aA Ih.ok (aA aNY.ok (aA Ar.ok aD)))) func201).mT rfl spec
end pK
namespace Gz
def E:=mE [(67,uU.aJ),(201,pK.aJ)] 21 [20] [(3,[1,2])] [3]
def aE:=bd f156
theorem aX:Nk E aE:=nk
def J3 a b c d e f g:=mD E f156 aE 3 [bP a,dM 1 44 [cU b,fU c,cV d,cU e,fU f,cV g]]
theorem start a c d e f g b:aH E f156 aE [D.agg [sc (bool a),ints u64 c,sc (int i64 d),sc (bool e),ints u64 f,sc (int i64 g)],D.s (sc (int i64 b))]=letI A:=some [D.s (sc (int i64 1))];aB (decide (b<1)) A (aB (decide (67000<b)) A (Gz.J3 b a c d e f g)):=eJ aX
theorem gU a b c d e f g:J3 a b c d e f g=aO (eQ (b,c,d,e,f,g)) (aO ((1<=a/\a<=67000)/\pK.Ot (b,c,d)/\pK.Ot (e,f,g)) (some [D.s (sc (int i64 0))])):=cJ aX
def sp(s:wV)(p:Int):Prop×List D:=((1<=p/\p<=67000)/\eQ s/\qP.Ot (gZ s)/\qP.Ot (hI s),[.s (.sc (.int .i64 0))])
theorem spec:gT E f156 aE yJ (pN .i64) sp:=by
 rintro s p ⟨⟨p0,p1⟩,h1,h2,h3⟩;refine(start s.1 s.2.1 s.2.2.1 s.2.2.2.1 s.2.2.2.2.1 s.2.2.2.2.2 p).trans ?_;rw[aL,aL]
 first
  |exact(gP h1).trans (gP ⟨⟨p0,p1⟩,h2,h3⟩)
  | (rw[gU];exact(gP h1).trans (gP ⟨⟨p0,p1⟩,h2,h3⟩))
def aJ:dK:=orc2 yJ (pN .i64) sp
theorem ok:OK 156 aJ:=(eZ E aE (aA uU.ok (aA pK.ok aD)) func156).mT rfl spec
end Gz
namespace cD
def E:=mE [(156,Gz.aJ),(120,Hb.aJ),(158,Ih.aJ),(159,fK.aJ),(160,bC.aJ)] 61 [17] [(10,[1,2,4,9,10]),(13,[1,4,9,10])] [10,13]
def aE:=bd f116
theorem aX:Nk E aE:=nk
def bGF a b c d e f g h i j k l m n o p q:=mD E f116 aE 10 [bP a,dM 1 44 [cU b,fU c,cV d,cU e,fU f,cV g],dM 2 44 [cU h,sc (slice none 0 0),cV i,cU j,sc (slice none 0 0),cV k],dM 3 29 [cU l,fU m,cV n],dM 4 29 [cU o,fU p,cV q]]
def Ql a b c d e f g h i j:=mD E f116 aE 13 [bP a,dM 1 44 [cU b,sc (slice none 0 0),cV c,cU d,sc (slice none 0 0),cV e],dM 2 29 [cU f,sc (slice none 0 0),cV g],dM 3 29 [cU h,fU i,cV j]]
def aYF a b c d e f g h i j k:=mD E f116 aE 13 [bP a,dM 1 44 [cU b,sc (slice none 0 0),cV c,cU d,sc (slice none 0 0),cV e],dM 2 29 [cU f,fU g,cV h],dM 3 29 [cU i,fU j,cV k]]
theorem start a c d e f g b:aH E f116 aE [D.agg [sc (bool a),ints u64 c,sc (int i64 d),sc (bool e),ints u64 f,sc (int i64 g)],D.s (sc (int i64 b))]=letI C:=(false,f,g);letI B:=(false,c,d);letI A:=(a,c,d,e,f,g);aO ((1<=b/\b<=67000)/\eQ A/\qP.Ot (gZ A)/\qP.Ot (hI A)) (aO (aQ B/\aQ C) (aC (lH (bI.mY (dv B) (dv C)) (bI.mW (dv B) (dv C))) fun h=>aB (decide (0<h)) (cD.bGF b a c d e f g false 0 false 0 false f g false c d) (cD.bGF b a c d e f g false 0 false 0 false c d false f g))):=eJ aX
theorem aYI a b c d e f g h i j k l m n o p q:bGF a b c d e f g h i j k l m n o p q=letI A:=(b,c,d,e,f,g);aO (eQ A) (aC (fK.sJ (dv (gZ A)) (dv (hI A))) fun r=>aB (r==0) (cD.Ql a h i j k false 0 o p q) (cD.aYF a h i j k l m n o p q)):=cJ aX
theorem yF a b c d e f g h i j:Ql a b c d e f g h i j=letI A:=i64.wrap (a+2);letI C:=bC.rT (dv (h,i,j)) A;letI B:=bC.qN (dv (f,[],g)) A;aO (bC.aGA (h,i,j) A) (aC (isNeg C.fst) fun k=>aC (M6.dg C.fst.natAbs) fun l=>aC C.snd fun m=>aO (bC.aGA (f,[],g) A) (aC (isNeg B.fst) fun n=>aC (M6.dg B.fst.natAbs) fun o=>aC B.snd fun p=>some [D.agg [sc (bool k),ints u64 l,sc (int i64 m),sc (bool n),ints u64 o,sc (int i64 p)],D.s (sc (int i64 0))])):=cJ aX
theorem aSF a b c d e f g h i j k:aYF a b c d e f g h i j k=letI A:=i64.wrap (a+2);letI C:=bC.qN (dv (f,g,h)) A;letI B:=bC.rT (dv (i,j,k)) A;aO (bC.aGA (i,j,k) A) (aC (isNeg B.fst) fun l=>aC (M6.dg B.fst.natAbs) fun m=>aC B.snd fun n=>aO (bC.aGA (f,g,h) A) (aC (isNeg C.fst) fun o=>aC (M6.dg C.fst.natAbs) fun p=>aC C.snd fun q=>some [D.agg [sc (bool l),ints u64 m,sc (int i64 n),sc (bool o),ints u64 p,sc (int i64 q)],D.s (sc (int i64 0))])):=cJ aX
def Yd(x:gE):gE:=(false,x.2.1,x.2.2)
def zY(s:wV):gE:=bif decide (0<eF (dv (Yd (gZ s))) (dv (Yd (hI s))))then Yd (gZ s)else Yd (hI s)
def tH(s:wV):gE:=bif fK.sJ (dv (gZ s)) (dv (hI s))==0 then(false,[],0)else bif decide (0<eF (dv (Yd (gZ s))) (dv (Yd (hI s))))then Yd (hI s)else Yd (gZ s)
def aAC(s:wV)(p:Int):Prop:=((1<=p/\p<=67000)/\eQ s/\qP.Ot (gZ s)/\qP.Ot (hI s))/\(bC.sp (zY s) (p+2)).1/\(bC.sp (tH s) (p+2)).1
def sp(s:wV)(p:Int):Prop×List D:=(aAC s p,[uX (bC.rT (dv (zY s)) (p+2)) (bC.qN (dv (tH s)) (p+2)),.s (.sc (.int .i64 0))])
theorem JN{s:wV}{p:Int}(hp:1<=p/\p<=67000)(hs:eQ s){n f:gE}(hf:(bC.sp f (p+2)).1)(hn:(bC.sp (bif fK.sJ (dv (gZ s)) (dv (hI s))==0 then(false,[],0)else n) (p+2)).1) :
  bGF p s.1 s.2.1 s.2.2.1 s.2.2.2.1 s.2.2.2.2.1 s.2.2.2.2.2 false 0 false 0 n.1 n.2.1 n.2.2 f.1 f.2.1 f.2.2=some [uX (bC.rT (dv f) (p+2)) (bC.qN (dv (bif fK.sJ (dv (gZ s)) (dv (hI s))==0 then(false,[],0)else n)) (p+2)),.s (.sc (.int .i64 0))]:=by
 have w:i64.wrap (p+2)=p+2:=wrap_i64;rw[aYI,gP hs,aG];show aB (fK.sJ (dv (gZ s)) (dv (hI s))==0) _ _=_
 by_cases c:fK.sJ (dv (gZ s)) (dv (hI s))=0
 ·rw[show(fK.sJ (dv (gZ s)) (dv (hI s))==0)=true from beq_iff_eq.2 c,cond_true]at hn ⊢;show Ql _ _ _ _ _ _ _ _ _ _=_;rw[yF];simp only[w,aG];exact(gP hf).trans ((gP hn).trans rfl)
 ·rw[show(fK.sJ (dv (gZ s)) (dv (hI s))==0)=false from beq_eq_false_iff_ne.2 c,cond_false]at hn ⊢;show aYF _ _ _ _ _ _ _ _ _ _ _=_;rw[aSF];simp only[w,aG];exact(gP hf).trans ((gP hn).trans rfl)
theorem spec:gT E f116 aE yJ (pN .i64) sp:=by
 rintro s p ⟨h1,h2,h3⟩;refine(start s.1 s.2.1 s.2.2.1 s.2.2.2.1 s.2.2.2.2.1 s.2.2.2.2.2 p).trans ?_;have ab:∀x:gE,aQ x->aQ (Yd x):=fun x hx=>⟨⟨hx.1.1,fun hf=>(by cases hf),hx.1.len⟩,hx.2⟩
 refine(gP h1).trans ((gP ⟨ab _ h1.2.1.1,ab _ h1.2.1.2.1⟩).trans ?_);rw[aG];unfold sp;unfold zY tH at *;dsimp only;show aB (decide (0<eF (dv (Yd (gZ s))) (dv (Yd (hI s))))) _ _=_
 by_cases c:0<eF (dv (Yd (gZ s))) (dv (Yd (hI s)))
 ·rw[aP c];rw[decide_eq_true c,cond_true,cond_true]at *;exact JN h1.1 h1.2.1 h2 h3
 ·rw[aL c];rw[decide_eq_false c,cond_false,cond_false]at *;exact JN h1.1 h1.2.1 h2 h3
def aJ:dK:=orc2 yJ (pN .i64) sp
theorem ok:OK 116 aJ:=(eZ E aE (aA Gz.ok (aA Hb.ok (aA Ih.ok (aA fK.ok (aA bC.ok aD))))) func116).mT rfl spec
end cD
namespace mJ
def E:=mE [(156,Gz.aJ),(157,fG.aJ)] 27 [9] [] []
def aE:=bd f115
theorem aX:Nk E aE:=nk
theorem start a c d e f g b:aH E f115 aE [D.agg [sc (bool a),ints u64 c,sc (int i64 d),sc (bool e),ints u64 f,sc (int i64 g)],D.s (sc (int i64 b))]=letI F:=(a,c,d,e,f,g);letI A:=i64.wrap (b+2);letI C:=fG.Ka (dv (e,f,g)) A;letI B:=fG.Jz (dv (a,c,d)) A;aO ((1<=b/\b<=67000)/\eQ F/\qP.Ot (gZ F)/\qP.Ot (hI F)) (aO (fG.aPA (a,c,d) A) (aC (isNeg B.fst) fun h=>aC (M6.dg B.fst.natAbs) fun i=>aC B.snd fun j=>aO (fG.aPA (e,f,g) A) (aC (isNeg C.fst) fun k=>aC (M6.dg C.fst.natAbs) fun l=>aC C.snd fun m=>some [D.agg [sc (bool h),ints u64 i,sc (int i64 j),sc (bool k),ints u64 l,sc (int i64 m)],D.s (sc (int i64 0))]))):=eJ aX
def Uj(s:wV)(p:Int):Prop:=((1<=p/\p<=67000)/\eQ s/\qP.Ot (gZ s)/\qP.Ot (hI s))/\(fG.sp (gZ s) (p+2)).1/\(fG.sp (hI s) (p+2)).1
def sp(s:wV)(p:Int):Prop×List D:=(Uj s p,[uX (fG.Jz (dv (gZ s)) (p+2)) (fG.Ka (dv (hI s)) (p+2)),.s (.sc (.int .i64 0))])
theorem spec:gT E f115 aE yJ (pN .i64) sp:=by
 rintro s p ⟨h1,h2,h3⟩;have p0:=h1.1;refine(start s.1 s.2.1 s.2.2.1 s.2.2.2.1 s.2.2.2.2.1 s.2.2.2.2.2 p).trans ?_;have w:i64.wrap (p+2)=p+2:=wrap_i64;simp only[w];rw[gP h1];simp only[aG];exact(gP h2).trans ((gP h3).trans rfl)
def aJ:dK:=orc2 yJ (pN .i64) sp
theorem ok:OK 115 aJ:=(eZ E aE (aA Gz.ok (aA fG.ok aD)) func115).mT rfl spec
end mJ
end W
namespace R
def fv(fn:Int)(x:Rat)(k:Int):Rat:=if fn=1 then Sf x k else if fn=2 then Cf x k else Sf x k/Cf x k
end R
namespace M
open Go AI W
def mg(p:Int):Rat:=if p<2500 then 0 else R.pz (-p-1500)
theorem aTA(p:Int):0<=mg p:=by
 unfold mg;split
 ·exact cGB
 ·exact cFS (R.dJ _)
theorem aTB(p:Int):mg p<=R.pz (-p-1500):=by
 unfold mg;split
 ·exact cFS (R.dJ _)
 ·exact cGB
structure kM(u v:Int×Int)(a:Rat)(p:Int):Prop where
 pu:jK u
 pv:jK v
 a0:R.pz (-1074)<=a
 a1:a<=79/100
 lu:R.ab (R.qz u)<=a
 lv:a<=R.ab (R.qz v)
 wd:R.ab (R.qz v)-R.ab (R.qz u)<=R.pz (-p-23)*a
theorem aUS{p:Int}(hp:-6<=p):R.pz (-p-23)<=1/131072:=by
 have:=R.cG (show -p-23<=-17 by omega);have e:=R.fS 0 (n:=17) (c:=131072) (by norm_cast);rw[R.fV,show(0:Int)-((17:Nat):Int)=-17 by rfl]at e;grind
theorem kM.more{u v:Int×Int}{a:Rat}{p:Int}(h:kM u v a p)(hp:-6<=p):0<a/\3/4*a<=R.ab (R.qz u)/\R.ab (R.qz v)<=5/4*a/\R.ab (R.qz v)<=4/5/\u.1≠0/\v.1≠0/\-1075<=bA u/\-1075<=bA v:=by
 obtain⟨_,_,a0,a1,lu,lv,wd⟩:=h;have ap:0<a:=by have:=R.dJ (-1074);grind
 have bPE:=aUS hp;have m:=R.aF (cFS ap) (show 0<=1/131072-R.pz (-p-23) by grind);have u1:3/4*a<=R.ab (R.qz u):=by grind
 have aBA:u.1≠0:=Hj (by intro hz;rw[hz,R.bG cGB]at u1;grind);have aGR:v.1≠0:=Hj (by intro hz;rw[hz,R.bG cGB]at lv;grind);have t:R.pz (-1075)*2=R.pz (-1074):=by have:=R.qA (-1074);rw[show(-1074:Int)-1=-1075 by rfl]at this;exact this
 have tp:=R.dJ (-1075);exact⟨ap,u1,by grind,by grind,aBA,aGR,Cl aBA (by grind),Cl aGR (by grind)⟩
theorem aIZ{u v:Int×Int}{a:Rat}{p n:Int}(h:kM u v a p)(hp:-6<=p/\p<=66000)(hn:p+14<=n/\n<=p+150/\1<=n):aZN u n/\aZN v n/\Bx (fG.tQ u n,fG.sH v n) (R.sn a) (R.pz (-p-12)*R.ab (R.sn a)) (mg p):=by
 obtain⟨ap,u1,v1,v2,aBA,aGR,tu,tv⟩:=h.more hp.1;obtain⟨pu,pv,a0,a1,lu,lv,wd⟩:=h;have nu:=Ul pu aBA (p:=n) (by grind) (by omega) (by omega);have nv:=Ul pv aGR (p:=n) (by grind) (by omega) (by omega);refine⟨nu,nv,nu.pl,nv.ph,bWK nu.bl (by decide),bWK nv.bh (by decide),aTA p,?_,?_,?_⟩
 ·dsimp only;have h1:=nu.lo;have h2:=R.aBL (x:=R.ab (R.qz u)) (y:=a) (by rw[R.bG (R.aM _)];grind) (by rw[R.bG (by grind)];grind) lu;have h3:=aTB p;have h4:R.pz (-p-1500)<=R.pz (bA u-n-270):=R.cG (by omega);grind
 ·dsimp only;have h2:=R.aBL (x:=a) (y:=R.ab (R.qz v)) (by rw[R.bG (by grind)];grind) (by rw[R.bG (R.aM _)];grind) lv;unfold mg;split
  ·have:=nv.hi;grind
  ·have:=nv.mh (by omega);have h4:R.pz (-p-1500)<=R.pz (bA v-n-270):=R.cG (by omega);grind
 ·dsimp only;have k1:=nu.wd;have k2:=nv.wd;have k3:=nu.hi;have k4:=nv.lo;have pz1:=R.dJ (bA v-n-270);have bHD:=R.aBM (x:=R.ab (R.qz u)) (y:=R.ab (R.qz v)) (by rw[R.bG (R.aM _)];grind) (by rw[R.bG (R.aM _)];grind);rw[R.bG (show 0<=R.ab (R.qz v)-R.ab (R.qz u) by grind)]at bHD;have l2:=R.By (R.sn (R.ab (R.qz v))-R.sn (R.ab (R.qz u)));obtain⟨s1,s2⟩:=R.aBO (cFS ap) (show a<=4/5 by grind);rw[R.bG (show 0<=R.sn a by grind)];have aZR:=R.cG (show -n-1<=-p-15 by omega);have k1:=cFT k1 (cKO aZR (R.aM (R.qz u)));have k2:=cFT k2 (cKO aZR (R.aM (R.qz v)));have bLB:R.pz (-p-15)=256*R.pz (-p-23):=by
   have:=R.fS (-p-15) (n:=8) (c:=256) (by norm_cast);rw[show -p-15-((8:Nat):Int)=-p-23 by omega]at this;grind
  have bDO:R.pz (-p-12)=2048*R.pz (-p-23):=by
   have:=R.fS (-p-12) (n:=11) (c:=2048) (by norm_cast);rw[show -p-12-((11:Nat):Int)=-p-23 by omega]at this;grind
  have zp:=R.dJ (-p-23);rw[bLB]at k1 k2;rw[bDO];generalize R.pz (-p-23)=z at *;have m1:=R.aF (cFS zp) (show 0<=5/4*a-R.ab (R.qz v) by grind);have m2:=R.aF (cFS zp) (show 0<=a-R.ab (R.qz u) by grind);have m3:=R.aF (cFS zp) (show 0<=R.sn a-4/5*a by grind);have m4:=R.aF (cFS zp) (cFS ap);grind
theorem aXD{n:Nat}(h:n<=1048576):R.vW<=R.pz (-(n:Int)):=by
 rw[R.xG];exact R.Bg h
theorem aXI{u v:Int×Int}{a:Rat}{p n:Int}(h:kM u v a p)(hp:-6<=p/\p<=66000)(hn:p+14<=n/\n<=p+150/\1<=n):bGG u n/\bGG v n/\Bx (bC.rT v n,bC.qN u n) (R.cs a) (R.pz (-p-12)*R.ab (R.cs a)) (mg p):=by
 obtain⟨ap,u1,v1,v2,aBA,aGR,tu,tv⟩:=h.more hp.1;obtain⟨pu,pv,a0,a1,lu,lv,wd⟩:=h;have nu:=Mb (x:=u) (p:=n) (by grind) (fun _=>by omega) (by omega);have nv:=Mb (x:=v) (p:=n) (by grind) (fun _=>by omega) (by omega);have he:2*R.vW<=R.pz (-p-1501):=by
  have:=aXD (n:=100000) (by omega);have h2:=R.cG (show -((100000:Nat):Int)+1<=-p-1501 by omega);rw[R.kF]at h2;grind
 have e1500:R.pz (-p-1500)=2*R.pz (-p-1501):=by rw[<-R.kF];congr 1;omega
 have pp:=R.dJ (-p-1501);have m1:=R.aDU (x:=R.ab (R.qz u)) (y:=a) (R.aM _) lu (by grind);have m2:=R.aDU (x:=a) (y:=R.ab (R.qz v)) (cFS ap) lv (by grind);have mm:=aTB p;obtain⟨c1,c2⟩:=R.Wn (r:=a) (by rw[R.bG (cFS ap)];grind);refine⟨nu,nv,nv.pl,nu.ph,bWK nv.bl (by decide),bWK nu.bh (by decide),aTA p,?_,?_,?_⟩
 ·dsimp only;have:=nv.ml aGR;have h4:R.pz (-p-1499)<=R.pz (bA v-n-270):=R.cG (by omega);have bDN:R.pz (-p-1499)=2*R.pz (-p-1500):=by rw[<-R.kF];congr 1;omega
  grind
 ·dsimp only
  by_cases c:2*bA u+8 < -n
  ·have e:bC.qN u n=(1,0):=by
    have et:aR.iR u=bA u:=by unfold aR.iR bA;rw[if_neg aBA]
    unfold bC.qN;rw[et,if_neg aBA,if_pos c]
   unfold mg;rw[aU,e,oV];grind
  ·have:=nu.mh aBA c;have h4:R.pz (-p-1499)<=R.pz (bA u-n-270):=R.cG (by omega);have bDN:R.pz (-p-1499)=2*R.pz (-p-1500):=by rw[<-R.kF];congr 1;omega
   grind
 ·dsimp only;have k1:=nu.wd;have k2:=nv.wd;have k3:=nu.lo;have k4:=nv.hi;have bHD:=R.aMP (x:=R.ab (R.qz u)) (y:=R.ab (R.qz v)) (by rw[R.bG (R.aM _)];grind) (by rw[R.bG (R.aM _)];grind);rw[R.bG (show 0<=R.ab (R.qz v)-R.ab (R.qz u) by grind)]at bHD;have l2:=R.nJ (R.cs (R.ab (R.qz v))-R.cs (R.ab (R.qz u)));rw[R.bG (show 0<=R.cs a by grind)];have aZR:=R.cG (show -n-1<=-p-15 by omega);have k1:=cFT k1 aZR;have k2:=cFT k2 aZR;have bLB:R.pz (-p-15)=256*R.pz (-p-23):=by
   have:=R.fS (-p-15) (n:=8) (c:=256) (by norm_cast);rw[show -p-15-((8:Nat):Int)=-p-23 by omega]at this;grind
  have bDO:R.pz (-p-12)=2048*R.pz (-p-23):=by
   have:=R.fS (-p-12) (n:=11) (c:=2048) (by norm_cast);rw[show -p-12-((11:Nat):Int)=-p-23 by omega]at this;grind
  have zp:=R.dJ (-p-23);have h5:R.pz (-p-1501)<=R.pz (-p-23):=R.cG (by omega);rw[bLB]at k1 k2;rw[bDO];generalize R.pz (-p-23)=z at *;have m3:=R.aF (cFS zp) (show 0<=R.cs a-17/25 by grind);have m4:=R.aF (cFS zp) (show 0<=1-a by grind);grind
def rS(x:Int×Int)(w q:Int):(Int×Int)×(Int×Int):=(fG.Jz (aZ.Ya x w) q,fG.Ka (aZ.Yb x w) q)
def aYS(x:Int×Int)(w:Int):wV:=mN (aZ.Ya x w) (aZ.Yb x w)
def rC(x:Int×Int)(w q:Int):(Int×Int)×(Int×Int):=(bC.rT (dv (cD.zY (aYS x w))) q,bC.qN (dv (cD.tH (aYS x w))) q)
def pZ(x:Int×Int)(w q:Int):((Int×Int)×(Int×Int))×((Int×Int)×(Int×Int)):=VTurned.trn (rS x w q) (rC x w q) (aZ.cQ x w).toNat
def rQ (x : Int × Int) (w p : Int) : (Int × Int) × (Int × Int) :=
  (aN (iS.Ki (p + 8) (pZ x w (p + 2)).1.1 (pZ x w (p + 2)).1.2 (pZ x w (p + 2)).2.1 (pZ x w (p + 2)).2.2).1 (iS.Ki (p + 8) (pZ x w (p + 2)).1.1 (pZ x w (p + 2)).1.2 (pZ x w (p + 2)).2.1 (pZ x w (p + 2)).2.2).2,
   aN (iS.Kj (p + 8) (pZ x w (p + 2)).1.1 (pZ x w (p + 2)).1.2 (pZ x w (p + 2)).2.1 (pZ x w (p + 2)).2.2).1 (iS.Kj (p + 8) (pZ x w (p + 2)).1.1 (pZ x w (p + 2)).1.2 (pZ x w (p + 2)).2.1 (pZ x w (p + 2)).2.2).2)
def rE(fn:Int)(x:Int×Int)(w p:Int):(Int×Int)×(Int×Int):=bif fn==1 then(pZ x w (p+2)).1 else bif fn==2 then(pZ x w (p+2)).2 else rQ x w p
theorem aBG{x:Int×Int}(h:x.1≠0):aR.iR x=bA x:=by unfold aR.iR bA;rw[if_neg h]
theorem aSM{x:gE}{p:Int}(hx:aQ x)(hp:1<=p/\p<=67100)(ht:-1200<=bA (dv x))(n:aZN (dv x) p):fG.aPA x p:=by
 refine⟨hx,hp,fun h0=>?_⟩;rw[aBG h0];refine⟨by omega,n.pl,n.ph,kX.2 ?_,n.bGV,n.okB⟩;have h1:=n.lo;have h2:=n.hi;have h3:=R.dJ (bA (dv x)-p-270);grind
theorem aTW{x:gE}{p:Int}(hx:aQ x)(hp:1<=p/\p<=67100)(ht:(dv x).1≠0->-1200<=bA (dv x))(n:bGG (dv x) p):bC.aGA x p:=by
 refine⟨hx,hp,fun h0=>?_⟩;have:=ht h0;rw[aBG h0];exact⟨by omega,n.bGV h0,n.okB h0⟩
theorem Sn(a b:Int×Int):dv (cD.Yd (gZ (mN a b)))=((a.1.natAbs:Int),a.2):=by
 show((M6.val (M6.dg a.1.natAbs):Int),a.2)=_;rw[M6.bQ]
theorem So(a b:Int×Int):dv (cD.Yd (hI (mN a b)))=((b.1.natAbs:Int),b.2):=by
 show((M6.val (M6.dg b.1.natAbs):Int),b.2)=_;rw[M6.bQ]
theorem Te{x:gE}(hx:aQ x):aQ (cD.Yd x):=⟨⟨hx.1.1,fun hf=>(by cases hf),hx.1.len⟩,hx.2⟩
theorem sV(p:Int×Int):R.ab (R.qz ((p.1.natAbs:Int),p.2))=R.ab (R.qz p):=by rw[Co,R.bG (R.aM _)]
theorem Wd{a b:Int×Int}(hs:fK.sJ a b≠0)(ha:jK a)(hb:jK b) :
  (aQ (cD.zY (mN a b))/\aQ (cD.tH (mN a b))) /\
  ((R.ab (R.qz b)<R.ab (R.qz a)/\dv (cD.zY (mN a b))=((a.1.natAbs:Int),a.2)/\dv (cD.tH (mN a b))=((b.1.natAbs:Int),b.2)) \/
  (R.ab (R.qz a)<=R.ab (R.qz b)/\dv (cD.zY (mN a b))=((b.1.natAbs:Int),b.2)/\dv (cD.tH (mN a b))=((a.1.natAbs:Int),a.2))):=by
 have oa:aQ (gZ (mN a b)):=dG ha;have ob:aQ (hI (mN a b)):=dG hb;unfold cD.zY cD.tH;rw[oN,oO,show(fK.sJ a b==0)=false from beq_eq_false_iff_ne.2 hs,cond_false,Sn,So];have hc:=xS (p:=((a.1.natAbs:Int),a.2)) (q:=((b.1.natAbs:Int),b.2));rw[Co,Co]at hc
 by_cases h:R.ab (R.qz b)<R.ab (R.qz a)
 ·rw[decide_eq_true (hc.2 h),cond_true,cond_true,Sn,So];exact⟨⟨Te oa,Te ob⟩,Or.inl ⟨h,rfl,rfl⟩⟩
 ·rw[decide_eq_false (fun hh=>h (hc.1 hh)),cond_false,cond_false,Sn,So];exact⟨⟨Te ob,Te oa⟩,Or.inr ⟨Rat.not_lt.1 h,rfl,rfl⟩⟩
theorem aOY{a:Int×Int}{x:gE}(hx:aQ x)(e:dv x=a)(h1:R.ab (R.qz a)<=1)(ht:a.1≠0->-1200<=bA a):qP.Ot x:=by
 refine⟨hx,fun h0=>?_⟩;rw[e]at h0 ⊢;have:=ht h0;refine⟨kX.2 (by rw[Co,oV];exact h1),?_⟩;unfold bA at this;omega
structure bVI(x:Int×Int)(p:Int)(r:Rat):Prop where
 so:mJ.Uj (aYS x (p+80)) (p+12)
 co:cD.aAC (aYS x (p+80)) (p+12)
 s:Bx (rS x (p+80) (p+14)) (R.sn r) (R.pz (-p-12)*R.ab (R.sn r)) (mg p)
 c:Bx (rC x (p+80) (p+14)) (R.cs r) (R.pz (-p-12)*R.ab (R.cs r)) (mg p)
 s1:R.ab (R.qz (rS x (p+80) (p+14)).1)<=1/\R.ab (R.qz (rS x (p+80) (p+14)).2)<=1
 c1:R.ab (R.qz (rC x (p+80) (p+14)).1)<=1/\R.ab (R.qz (rC x (p+80) (p+14)).2)<=1
theorem aKH{s:(Int×Int)×(Int×Int)}{V W m:Rat}(h:Bx s V W m)(h1:-1<=R.qz s.1)(h2:R.qz s.2<=1):R.ab (R.qz s.1)<=1/\R.ab (R.qz s.2)<=1:=by
 have:=h.lo;have:=h.hi;have:=h.m0;constructor <;> (rw[R.bW];constructor <;> grind)
def gS(l h:Int×Int)(q:Int):(Int×Int)×(Int×Int):=(fG.Jz l q,fG.Ka h q)
def gC(l h:Int×Int)(q:Int):(Int×Int)×(Int×Int):=(bC.rT (dv (cD.zY (mN l h))) q,bC.qN (dv (cD.tH (mN l h))) q)
structure bLJ(l h:Int×Int)(p n:Int)(r:Rat):Prop where
 so:mJ.Uj (mN l h) (n-2)
 co:cD.aAC (mN l h) (n-2)
 s:Bx (gS l h n) (R.sn r) (R.pz (-p-12)*R.ab (R.sn r)) (mg p)
 c:Bx (gC l h n) (R.cs r) (R.pz (-p-12)*R.ab (R.cs r)) (mg p)
 s1:R.ab (R.qz (gS l h n).1)<=1/\R.ab (R.qz (gS l h n).2)<=1
 c1:R.ab (R.qz (gC l h n).1)<=1/\R.ab (R.qz (gC l h n).2)<=1
theorem aIC{l h:Int×Int}{p n:Int}{r:Rat}(hp:-6<=p/\p<=66000)(hn:p+14<=n/\n<=p+150/\3<=n)(pl:jK l)(ph:jK h)(lo:R.qz l<=r)(hi:r<=R.qz h)(wd:R.qz h-R.qz l<=R.pz (-p-23)*R.ab r)(rg:R.pz (-1074)<=R.ab r)(nl:R.ab r<=79/100):bLJ l h p n r:=by
 have Zh:p+14<=n/\n<=p+150/\1<=n:=by omega
 have bPE:=aUS hp.1;have rp:0<R.ab r:=by have:=R.dJ (-1074);grind
 have m:=R.aF (cFS rp) (show 0<=1/131072-R.pz (-p-23) by grind);have tok:∀q:Int,q=n-2->(1<=q/\q<=67000):=fun q hq=>by omega
 have oa:aQ (gZ (mN l h)):=dG pl;have ob:aQ (hI (mN l h)):=dG ph;have ea:dv (gZ (mN l h))=l:=oN _ _;have eb:dv (hI (mN l h))=h:=oO _ _;have sk:eQ (mN l h):=xF pl ph (kX.2 (by grind));have aHM:n-2+2=n:=by omega
 have fin:∀(a:Rat),a=R.ab r->R.ab (R.qz l)<=4/5->R.ab (R.qz h)<=4/5 ->
   (l.1≠0/\-1075<=bA l)->(h.1≠0/\-1075<=bA h) ->
   aZN l n->aZN h n ->
   kM (dv (cD.tH (mN l h))) (dv (cD.zY (mN l h))) a p->aQ (cD.zY (mN l h))->aQ (cD.tH (mN l h)) ->
   Bx (gS l h n) (R.sn r) (R.pz (-p-12)*R.ab (R.sn r)) (mg p)->-1<=R.qz (gS l h n).1->R.qz (gS l h n).2<=1->bLJ l h p n r:=by
  intro a ha l1 l2 t1 t2 n1 n2 par of on bs b1 b2;obtain⟨cu,cv,cb⟩:=aXI par hp Zh;obtain⟨_,_,_,_,_,_,tu,tv⟩:=par.more hp.1;have ec:R.cs a=R.cs r:=by rw[ha];exact R.aMQ r
  rw[ec]at cb;refine⟨⟨⟨tok _ rfl,sk,aOY oa ea (by grind) (fun _=>by omega),aOY ob eb (by grind) (fun _=>by omega)⟩,?_,?_⟩,⟨⟨tok _ rfl,sk,aOY oa ea (by grind) (fun _=>by omega),aOY ob eb (by grind) (fun _=>by omega)⟩,?_,?_⟩,bs,cb,aKH bs b1 b2,aKH cb ?_ cu.one⟩
  ·rw[aHM];exact aSM oa (by omega) (by rw[ea];omega) (by rw[ea];exact n1)
  ·rw[aHM];exact aSM ob (by omega) (by rw[eb];omega) (by rw[eb];exact n2)
  ·rw[aHM];exact aTW of (by omega) (fun _=>by omega) cv
  ·rw[aHM];exact aTW on (by omega) (fun _=>by omega) cu
  ·have h1:=cb.wd;have h2:=cb.hi;have h3:=cb.m0;obtain⟨c1,c2⟩:=R.Wn (r:=r) (by grind);rw[R.bG (show 0<=R.cs r by grind)]at h1;have z12:R.pz (-p-12)<=1:=by rw[<-R.fV];exact R.cG (by omega)
   have:=R.aF (show 0<=R.cs r by grind) (show 0<=1-R.pz (-p-12) by grind);show -1<=R.qz (bC.rT (dv (cD.zY (mN l h))) n);dsimp only at h1 h2;grind
 have t75:R.pz (-1075)*2=R.pz (-1074):=by have:=R.qA (-1074);rw[show(-1074:Int)-1=-1075 by rfl]at this;exact this
 by_cases c:0<r
 ·have er:R.ab r=r:=R.bG (cFS c);rw[er]at nl wd rg rp m;have al:R.ab (R.qz l)=R.qz l:=R.bG (by grind);have ah:R.ab (R.qz h)=R.qz h:=R.bG (by grind);have par:kM l h r p:=⟨pl,ph,rg,nl,by rw[al];exact lo,by rw[ah];exact hi,by rw[al,ah];exact wd⟩;obtain⟨_,_,_,v2,aBA,aGR,tu,tv⟩:=par.more hp.1;obtain⟨nu,nv,bs⟩:=aIZ par hp Zh;have sg:fK.sJ l h≠0:=by rw[Ym (by grind) (by grind)];decide
  obtain⟨⟨of,on⟩,hd⟩:=Wd sg pl ph;have n1:isNeg l.1=false:=iO.2 (by have:=kA.1 (show 0<R.qz l by grind);omega);have n2:isNeg h.1=false:=iO.2 (by have:=kA.1 (show 0<R.qz h by grind);omega);have eS:gS l h n=(fG.tQ l n,fG.sH h n):=by
   unfold gS fG.Jz fG.Ka;rw[if_neg aBA,if_neg aGR,n1,n2];rfl
  refine fin r er.symm (by grind) (by grind) ⟨aBA,tu⟩ ⟨aGR,tv⟩ nu nv ?_ of on (by rw[eS];exact bs) ?_ ?_
  ·rcases hd with ⟨d1,d2,d3⟩ |⟨d1,d2,d3⟩
   ·grind
   ·show kM (dv (cD.tH (mN _ _))) (dv (cD.zY (mN _ _))) r p;rw[d2,d3];exact⟨xI pl,xI ph,rg,nl,by rw[sV,al];exact lo,by rw[sV,ah];exact hi,by rw[sV,sV,al,ah];exact wd⟩
  ·rw[eS];have:=nu.pos;dsimp only;grind
  ·rw[eS];exact nv.one
 ·have er:R.ab r=-r:=by
   unfold R.ab
   by_cases hr:0<=r
   ·have:r=0:=by grind
    rw[this,R.bG cGB]at rp;grind
   ·rw[if_neg hr]
  rw[er]at nl wd rg rp m;have al:R.ab (R.qz l)=-R.qz l:=by rw[<-R.iJ];exact R.bG (by grind)
  have ah:R.ab (R.qz h)=-R.qz h:=by rw[<-R.iJ];exact R.bG (by grind)
  have par:kM h l (-r) p:=⟨ph,pl,rg,nl,by rw[ah];grind,by rw[al];grind,by rw[al,ah];grind⟩;obtain⟨_,_,_,v2,aBA,aGR,tu,tv⟩:=par.more hp.1;obtain⟨nu,nv,bs⟩:=aIZ par hp Zh;have sg:fK.sJ l h≠0:=by rw[Yn (by grind)];decide
  obtain⟨⟨of,on⟩,hd⟩:=Wd sg pl ph;have n1:isNeg l.1=true:=nL.2 (Kh.1 (by grind));have n2:isNeg h.1=true:=nL.2 (Kh.1 (by grind));have eS:gS l h n=(jY.wH (fG.sH l n),jY.wH (fG.tQ h n)):=by
   unfold gS fG.Jz fG.Ka;rw[if_neg aBA,if_neg aGR,n1,n2];rfl
  have bn:=bs.neg;have es:-R.sn (-r)=R.sn r:=by rw[R.Fi];grind
  have bUT:R.ab (R.sn (-r))=R.ab (R.sn r):=by rw[R.Fi,R.iJ]
  rw[es,bUT]at bn;refine fin (-r) er.symm (by grind) (by grind) ⟨aGR,tv⟩ ⟨aBA,tu⟩ nv nu ?_ of on (by rw[eS];exact bn) ?_ ?_
  ·show kM (dv (cD.tH (mN _ _))) (dv (cD.zY (mN _ _))) (-r) p;rcases hd with ⟨d1,d2,d3⟩ |⟨d1,d2,d3⟩
   ·rw[d2,d3];exact⟨xI ph,xI pl,rg,nl,by rw[sV,ah];grind,by rw[sV,al];grind,by rw[sV,sV,al,ah];grind⟩
   ·rw[d2,d3];exact⟨xI pl,xI ph,rg,nl,by rw[sV,al];grind,by rw[sV,ah];grind,by rw[sV,sV,al,ah];grind⟩
  ·rw[eS];show -1<=R.qz (-(fG.sH l n).1,(fG.sH l n).2);rw[oW];have:=nv.one;grind
  ·rw[eS];show R.qz (-(fG.tQ h n).1,(fG.tQ h n).2)<=1;rw[oW];have:=nu.pos;grind
theorem aUG{x:Int×Int}{p k:Int}(hp:1<=p/\p<=66000)(h:aXV x (p+80) k):bVI x p (R.qz x-(k:Rat)*(R.pi/2)):=by
 have nl:=R.qU h.Yz;obtain⟨_,_,pl,ph,lo,hi,wd,rg⟩:=h;rw[show 57-(p+80)=-p-23 by omega]at wd;obtain⟨a,b,c,d,e,f⟩:=aIC (n:=p+14) ⟨by omega,hp.2⟩ (by omega) pl ph lo hi wd rg nl;rw[show p+14-2=p+12 by omega]at a b;exact⟨a,b,c,d,e,f⟩
end M
namespace M
open Go AI W
theorem Ra{up:Bool}{p:Int×Int}{n:Int}(hn:1<=n)(h:R.ab (R.qz p)<=1):R.ab (R.qz (shD up p n))<=1:=by
 unfold shD cE.nQ;rw[oI];split
 ·exact h
 ·rename_i hk;dsimp only;have h0:p.1≠0:=by
   intro hz;rw[hz]at hk;exact hk (by show(bl 0:Int)-n<=0;rw[Sv];omega)
  have ht:=Dl h0 (by rw[R.fV];exact h);unfold bA at ht;obtain⟨k,Xw⟩:=cAS (show 0<=(bl p.1.natAbs:Int)-n by omega);rw[Xw,bZL];obtain⟨j,hj⟩:=cAS (show 0<=-(p.2+(k:Int)) by omega);have hz:p.1.natAbs<=2^j*2^k:=by
   rw[Qf]at h;rw[<-cAQ];have e1:R.pz p.2*((2^(j+k):Nat):Rat)=1:=by rw[<-R.dY,show p.2+((j+k:Nat):Int)=0 by omega,R.fV]
   have P:(0:Rat)<=((2^(j+k):Nat):Rat):=by exact_mod_cast cBX _
   have m:=R.aF P (show 0<=1-(p.1.natAbs:Rat)*R.pz p.2 by grind);have:(p.1.natAbs:Rat)<=((2^(j+k):Nat):Rat):=by
    have e2:((2^(j+k):Nat):Rat)*((p.1.natAbs:Rat)*R.pz p.2)=(p.1.natAbs:Rat):=by
     rw[Rat.mul_comm,cGT,e1];grind
    grind
   exact_mod_cast this
  have hp:(0:Int)<((2^k:Nat):Int):=by have:=bYO (n:=k) (show 0<2 by decide);omega
  have bMH:(p.1.natAbs:Int)<=((2^j:Nat):Int)*((2^k:Nat):Int):=by exact_mod_cast hz
  have hc:-((2^j:Nat):Int)<=kD.pC up p.1 k/\kD.pC up p.1 k<=((2^j:Nat):Int):=by
   have fl:∀w:Int,(w.natAbs:Int)<=((2^j:Nat):Int)*((2^k:Nat):Int)->-((2^j:Nat):Int)<=w/((2^k:Nat):Int)/\w/((2^k:Nat):Int)<=((2^j:Nat):Int):=by
    intro w hw;constructor
    ·refine Int.le_ediv_of_mul_le hp ?_;rw[Int.neg_mul];omega
    ·exact Int.ediv_le_of_le_mul hp (by omega)
   unfold kD.pC;cases up with
   |false=>rw[cond_false];exact fl _ bMH
   |true =>
    rw[cond_true];have:=fl (-p.1) (by rw[cCC];exact bMH);omega
  generalize kD.pC up p.1 k=c at *;have e1:R.pz (p.2+(k:Int))*((2^j:Nat):Rat)=1:=by rw[<-R.dY,show p.2+(k:Int)+(j:Int)=0 by omega,R.fV]
  have pp:=R.dJ (p.2+(k:Int));have c1:-((2^j:Nat):Rat)<=(c:Rat):=by
   have:((-((2^j:Nat):Int):Int):Rat)<=(c:Rat):=by exact_mod_cast hc.1
   rwa [cIM,cGV]at this
  have c2:(c:Rat)<=((2^j:Nat):Rat):=by
   have:(c:Rat)<=(((2^j:Nat):Int):Rat):=by exact_mod_cast hc.2
   rwa [cGV]at this
  have m1:=R.aF (cFS pp) (show 0<=(c:Rat)+((2^j:Nat):Rat) by grind);have m2:=R.aF (cFS pp) (show 0<=((2^j:Nat):Rat)-(c:Rat) by grind);rw[R.bW];constructor <;> grind
def On(s:(Int×Int)×(Int×Int)):Prop:=R.ab (R.qz s.1)<=1/\R.ab (R.qz s.2)<=1
theorem On.neg{s:(Int×Int)×(Int×Int)}(h:On s):On (jY.wH s.2,jY.wH s.1):=by
 constructor
 ·show R.ab (R.qz (-s.2.1,s.2.2))<=1;rw[oW,R.iJ];exact h.2
 ·show R.ab (R.qz (-s.1.1,s.1.2))<=1;rw[oW,R.iJ];exact h.1
theorem On.trn{s c:(Int×Int)×(Int×Int)}(hs:On s)(hc:On c):∀n:Nat,On (VTurned.trn s c n).1/\On (VTurned.trn s c n).2:=by
 intro n
 induction n generalizing s c with
 |zero=>exact⟨hs,hc⟩
 |succ n ih=>exact ih hc hs.neg
theorem Gr{s:(Int×Int)×(Int×Int)}{V ρ m:Rat}(h:Bx s V (ρ*R.ab V) m)(r1:ρ<=1/64)(V0:V≠0) :
  63/64*R.ab V<=R.ab (R.qz s.1)/\R.ab (R.qz s.1)<=65/64*R.ab V/\63/64*R.ab V<=R.ab (R.qz s.2)/\R.ab (R.qz s.2)<=65/64*R.ab V/\(0<V->0<R.qz s.1)/\(V<0->R.qz s.2<0)/\0<R.ab V:=by
 obtain⟨_,_,_,_,m0,lo,hi,wd⟩:=h;have a0:0<R.ab V:=by
  unfold R.ab;split <;> grind
 have k:=R.aF (cFS a0) (show 0<=1/64-ρ by grind);generalize hρ:ρ*R.ab V=W at *
 by_cases c:0<V
 ·have e:R.ab V=V:=R.bG (cFS c);rw[e]at a0 k hρ;rw[e];rw[R.bG (show 0<=R.qz s.1 by grind),R.bG (show 0<=R.qz s.2 by grind)];refine⟨by grind,by grind,by grind,by grind,fun _=>by grind,fun _=>by grind,c⟩
 ·have e:R.ab V=-V:=by unfold R.ab;rw[if_neg (by grind)]
  rw[e]at a0 k hρ;rw[e];rw[<-R.iJ,R.bG (show 0<=-R.qz s.1 by grind),<-R.iJ,R.bG (show 0<=-R.qz s.2 by grind)];refine⟨by grind,by grind,by grind,by grind,fun _=>by grind,fun _=>by grind,by grind⟩
theorem wQ{s:(Int×Int)×(Int×Int)}{V W W' m:Rat}(h:Bx s V W m)(hw:W<=W'):Bx s V W' m:=by
 obtain⟨a,b,c,d,e,f,g,i⟩:=h;exact⟨a,b,c,d,e,f,g,cFT i hw⟩
def eE(fn:Int)(x:Int×Int)(p:Int):(Int×Int)×(Int×Int):=(shD false (rE fn x (p+80) (p+12)).1 (p+20),shD true (rE fn x (p+80) (p+12)).2 (p+20))
structure bEL(fn:Int)(x:Int×Int)(p k:Int):Prop where
 so:mJ.Uj (aYS x (p+80)) (p+12)
 co:cD.aAC (aYS x (p+80)) (p+12)
 sS:eQ (mN (rS x (p+80) (p+14)).1 (rS x (p+80) (p+14)).2)
 sC:eQ (mN (rC x (p+80) (p+14)).1 (rC x (p+80) (p+14)).2)
 t1:eQ (mN (pZ x (p+80) (p+14)).1.1 (pZ x (p+80) (p+14)).1.2)
 t2:eQ (mN (pZ x (p+80) (p+14)).2.1 (pZ x (p+80) (p+14)).2.2)
 z:Ie (pZ x (p+80) (p+14)).1.1/\Ie (pZ x (p+80) (p+14)).1.2/\Ie (pZ x (p+80) (p+14)).2.1/\Ie (pZ x (p+80) (p+14)).2.2
 q0:fK.sJ (pZ x (p+80) (p+14)).2.1 (pZ x (p+80) (p+14)).2.2≠0
 q1:gY (iS.Ki (p+20) (pZ x (p+80) (p+14)).1.1 (pZ x (p+80) (p+14)).1.2 (pZ x (p+80) (p+14)).2.1 (pZ x (p+80) (p+14)).2.2).1 (iS.Ki (p+20) (pZ x (p+80) (p+14)).1.1 (pZ x (p+80) (p+14)).1.2 (pZ x (p+80) (p+14)).2.1 (pZ x (p+80) (p+14)).2.2).2=true
 q2:gY (iS.Kj (p+20) (pZ x (p+80) (p+14)).1.1 (pZ x (p+80) (p+14)).1.2 (pZ x (p+80) (p+14)).2.1 (pZ x (p+80) (p+14)).2.2).1 (iS.Kj (p+20) (pZ x (p+80) (p+14)).1.1 (pZ x (p+80) (p+14)).1.2 (pZ x (p+80) (p+14)).2.1 (pZ x (p+80) (p+14)).2.2).2=true
 re:eQ (mN (rE fn x (p+80) (p+12)).1 (rE fn x (p+80) (p+12)).2)
 s1:wZ false (rE fn x (p+80) (p+12)).1 (p+20)=true
 s2:wZ true (rE fn x (p+80) (p+12)).2 (p+20)=true
 v0:R.fv fn (R.qz x) k≠0
 vl:R.pz (-1100)<=R.ab (R.fv fn (R.qz x) k)
 vh:R.ab (R.fv fn (R.qz x) k)<=R.pz 1090
 bx:Bx (eE fn x p) (R.fv fn (R.qz x) k) (R.pz (-p-8)*R.ab (R.fv fn (R.qz x) k)) (mg p)
 bits:(bl (eE fn x p).1.1.natAbs:Int)<=p+21/\(bl (eE fn x p).2.1.natAbs:Int)<=p+21
 ok:bI.jW (eE fn x p).2 (-(eE fn x p).1.1,(eE fn x p).1.2)=true
 thin:Ev.aYQ (eE fn x p).1 (eE fn x p).2 p=true
 on:fn<=2->On (eE fn x p)
theorem tI{p:Int×Int}(h:0<R.ab (R.qz p)):p.1≠0:=Hj fun hz=>by rw[hz,R.bG cGB]at h;exact Rat.lt_irrefl h
theorem aBX(k:Int)(s c:Rat):R.ab (R.rs k s c)=if k%2=0 then R.ab s else R.ab c:=by
 have h4:k%4=0\/k%4=1\/k%4=2\/k%4=3:=by omega
 unfold R.rs;rcases h4 with h |h |h |h
 ·have h2:k%2=0:=by omega
  simp[h,h2,R.iJ]
 ·have h2:k%2=1:=by omega
  simp[h,h2,R.iJ]
 ·have h2:k%2=0:=by omega
  simp[h,h2,R.iJ]
 ·have h2:k%2=1:=by omega
  simp[h,h2,R.iJ]
theorem aCA(k:Int)(s c:Rat):R.ab (R.rc k s c)=if k%2=0 then R.ab c else R.ab s:=by
 have h4:k%4=0\/k%4=1\/k%4=2\/k%4=3:=by omega
 unfold R.rc;rcases h4 with h |h |h |h
 ·have h2:k%2=0:=by omega
  simp[h,h2,R.iJ]
 ·have h2:k%2=1:=by omega
  simp[h,h2,R.iJ]
 ·have h2:k%2=0:=by omega
  simp[h,h2,R.iJ]
 ·have h2:k%2=1:=by omega
  simp[h,h2,R.iJ]
theorem xQ{fn:Int}{x:Int×Int}{p k:Int}(hx:aAU x)(hp:1<=p/\p<=66000)(hf:1<=fn/\fn<=3)(h:aXV x (p+80) k):bEL fn x p k:=by
 obtain⟨so,co,bs,bc,os,oc⟩:=aUG hp h;have rn:=R.qU h.Yz;have rg:=h.rg;have hq:=h.q;obtain⟨r,hr⟩:∃r,r=R.qz x-(k:Rat)*(R.pi/2):=⟨_,rfl⟩;have bKW:R.Sf (R.qz x) k=R.rs k (R.sn r) (R.cs r):=by rw[hr];rfl
 have bKX:R.Cf (R.qz x) k=R.rc k (R.sn r) (R.cs r):=by rw[hr];rfl
 rw[<-hr]at bs bc rn rg;have t75:R.pz (-1075)*2=R.pz (-1074):=by have:=R.qA (-1074);rw[show(-1074:Int)-1=-1075 by rfl]at this;exact this
 have bGQ:=R.dJ (-1075);have bQI:R.pz (-1075)<=1/2:=by
  have:=R.cG (show(-1074:Int)<=0 by omega);rw[R.fV]at this;grind
 obtain⟨c1,c2⟩:=R.Wn (r:=r) (by grind);have s0:R.pz (-1075)<=R.ab (R.sn r)/\R.ab (R.sn r)<=1:=by
  rw[<-R.aIX (by grind)];obtain⟨a,b⟩:=R.aBO (R.aM r) (by grind);constructor <;> grind
 have s1:R.pz (-1075)<=R.ab (R.cs r)/\R.ab (R.cs r)<=1:=by
  rw[R.bG (show 0<=R.cs r by grind)];constructor <;> grind
 have sS:R.pz (-1075)<=R.ab (R.Sf (R.qz x) k)/\R.ab (R.Sf (R.qz x) k)<=1:=by
  rw[bKW,aBX];split <;> assumption
 have sC:R.pz (-1075)<=R.ab (R.Cf (R.qz x) k)/\R.ab (R.Cf (R.qz x) k)<=1:=by
  rw[bKX,aCA];split <;> assumption
 have Ks:∀v:Rat,R.pz (-1075)<=R.ab v->v≠0:=fun v hv hz=>by rw[hz,R.bG cGB]at hv;grind
 have S0:=Ks _ sS.1;have C0:=Ks _ sC.1;obtain⟨z,hz⟩:∃z,z=R.pz (-p-20):=⟨_,rfl⟩;have z0:=R.dJ (-p-20);rw[<-hz]at z0;have pw:∀(a:Int) (n:Nat) (c:Rat),a=-p-20+(n:Int)->((2^n:Nat):Rat)=c->R.pz a=c*z:=fun a n c ha hc=>by
  rw[ha,R.dY,hc,hz];grind
 have bDO:=pw (-p-12) 8 256 (by omega) (by norm_cast);have e8:=pw (-p-8) 12 4096 (by omega) (by norm_cast);have bFY:=pw (1-(p+20)) 1 2 (by omega) (by norm_cast);have bLA:=pw (2-(p+20)) 2 4 (by omega) (by norm_cast);have zs:z<=1/2097152:=by
  have:=R.cG (show -p-20<=-21 by omega);have e:=R.fS 0 (n:=21) (c:=2097152) (by norm_cast);rw[R.fV,show(0:Int)-((21:Nat):Int)=-21 by rfl]at e;grind
 obtain⟨b1,b2⟩:=Bx.trn bs bc (k:=k);have eT:pZ x (p+80) (p+14)=VTurned.trn (rS x (p+80) (p+14)) (rC x (p+80) (p+14)) (k%4).toNat:=by unfold pZ;rw[hq]
 rw[<-eT,<-bKW]at b1;rw[<-eT,<-bKX]at b2;have aVB:=On.trn os oc (k%4).toNat;rw[<-eT]at aVB;have b1:Bx (pZ x (p+80) (p+14)).1 (R.Sf (R.qz x) k) (R.pz (-p-12)*R.ab (R.Sf (R.qz x) k)) (mg p):=by
  refine wQ b1 ?_;rw[bKW,aBX];split <;> exact cGB
 have b2:Bx (pZ x (p+80) (p+14)).2 (R.Cf (R.qz x) k) (R.pz (-p-12)*R.ab (R.Cf (R.qz x) k)) (mg p):=by
  refine wQ b2 ?_;rw[bKX,aCA];split <;> exact cGB
 rw[bDO]at b1 b2;have bPN:=bs.zA;have bPM:=bc.zA;have n1:=Gr b1 (by grind) S0;have n2:=Gr b2 (by grind) C0;have bDJ:R.pz (-1300)<=R.pz (-1075)/2:=by
  have:=R.qA (-1075);have:=R.cG (show(-1300:Int)<=-1075-1 by omega);grind
 have z1:Ie (pZ x (p+80) (p+14)).1.1:=zE b1.bl (tI (by grind)) (by grind) (by grind);have z2:Ie (pZ x (p+80) (p+14)).1.2:=zE b1.bh (tI (by grind)) (by grind) (by grind);have z3:Ie (pZ x (p+80) (p+14)).2.1:=zE b2.bl (tI (by grind)) (by grind) (by grind);have z4:Ie (pZ x (p+80) (p+14)).2.2:=zE b2.bh (tI (by grind)) (by grind) (by grind);have bDD:R.Sf (R.qz x) k/R.Cf (R.qz x) k*R.Cf (R.qz x) k=R.Sf (R.qz x) k:=by grind
 obtain⟨q0,q1,q2,bq⟩:=aJF (p:=p+20) b1 b2 S0 C0 sC.2 (by grind) (by grind) bDD (by omega) z1 z2 z3 z4;rw[bLA]at bq;have aV:R.ab (R.Sf (R.qz x) k/R.Cf (R.qz x) k)*R.ab (R.Cf (R.qz x) k)=R.ab (R.Sf (R.qz x) k):=by rw[<-R.fI,bDD]
 have bQM:R.pz (-1075)*R.pz 1075=1:=by rw[<-R.jJ];exact R.fV
 have bVJ:1<=R.pz 1075:=by rw[<-R.fV];exact R.cG (by omega)
 have tV:R.pz (-1075)<=R.ab (R.Sf (R.qz x) k/R.Cf (R.qz x) k)/\R.ab (R.Sf (R.qz x) k/R.Cf (R.qz x) k)<=R.pz 1075:=by
  have a0:=R.aM (R.Sf (R.qz x) k/R.Cf (R.qz x) k);generalize R.ab (R.Sf (R.qz x) k/R.Cf (R.qz x) k)=a at *;constructor
  ·have:=R.aF a0 (show 0<=1-R.ab (R.Cf (R.qz x) k) by grind);grind
  ·refine R.bV bGQ ?_;have:=R.aF a0 (show 0<=R.ab (R.Cf (R.qz x) k)-R.pz (-1075) by grind);grind
 have bLI:=Ks _ tV.1;obtain⟨bE,vl,vh,V0,oE⟩:Bx (rE fn x (p+80) (p+12)) (R.fv fn (R.qz x) k) (2048*z*R.ab (R.fv fn (R.qz x) k)) (mg p)/\R.pz (-1075)<=R.ab (R.fv fn (R.qz x) k)/\R.ab (R.fv fn (R.qz x) k)<=R.pz 1075/\R.fv fn (R.qz x) k≠0/\(fn<=2->On (rE fn x (p+80) (p+12))):=by
  have aHM:p+12+2=p+14:=by omega
  have bKZ:p+12+8=p+20:=by omega
  have h3:fn=1\/fn=2\/fn=3:=by omega
  rcases h3 with rfl |rfl |rfl
  ·have a:R.fv 1 (R.qz x) k=R.Sf (R.qz x) k:=rfl;have b:rE 1 x (p+80) (p+12)=(pZ x (p+80) (p+14)).1:=by unfold rE;rw[aHM];rfl
   rw[a,b];exact⟨wQ b1 (by have:=R.aF (cFS z0) (R.aM (R.Sf (R.qz x) k));grind),sS.1,by grind,S0,fun _=>aVB.1⟩
  ·have a:R.fv 2 (R.qz x) k=R.Cf (R.qz x) k:=rfl;have b:rE 2 x (p+80) (p+12)=(pZ x (p+80) (p+14)).2:=by unfold rE;rw[aHM];rfl
   rw[a,b];exact⟨wQ b2 (by have:=R.aF (cFS z0) (R.aM (R.Cf (R.qz x) k));grind),sC.1,by grind,C0,fun _=>aVB.2⟩
  ·have a:R.fv 3 (R.qz x) k=R.Sf (R.qz x) k/R.Cf (R.qz x) k:=rfl;have b:rE 3 x (p+80) (p+12)=rQ x (p+80) (p+12):=rfl;rw[a,b];unfold rQ;rw[aHM,bKZ];exact⟨wQ bq (by have:=R.aF (cFS z0) (R.aM (R.Sf (R.qz x) k/R.Cf (R.qz x) k));grind),tV.1,tV.2,bLI,fun h=>absurd h (by decide)⟩
 have nE:=Gr bE (by grind) V0;have bEE:2*R.pz 1075<=R.pz 1100:=by rw[<-R.kF];exact R.cG (by omega)
 obtain⟨bGK,bGJ,bO⟩:=Yw (n:=p+20) bE (by omega) (by grind) (by grind);rw[bFY]at bO;have bX:Bx (eE fn x p) (R.fv fn (R.qz x) k) (4096*z*R.ab (R.fv fn (R.qz x) k)) (mg p):=by
  refine wQ bO ?_;have k1:=R.aF (cFS z0) (show 0<=65/64*R.ab (R.fv fn (R.qz x) k)-R.ab (R.qz (rE fn x (p+80) (p+12)).1) by grind);have k2:=R.aF (cFS z0) (show 0<=65/64*R.ab (R.fv fn (R.qz x) k)-R.ab (R.qz (rE fn x (p+80) (p+12)).2) by grind);have k3:=R.aF (cFS z0) (R.aM (R.fv fn (R.qz x) k));grind
 have nX:=Gr bX (by grind) V0;have g1:=zF false (rE fn x (p+80) (p+12)).1 (p+20).toNat;have g2:=zF true (rE fn x (p+80) (p+12)).2 (p+20).toNat;rw[show(((p+20).toNat:Nat):Int)=p+20 by omega]at g1 g2;have m1:(eE fn x p).1.1≠0:=tI (by grind);have m2:(eE fn x p).2.1≠0:=tI (by grind);have x1:=Ip (up:=false) (p:=(rE fn x (p+80) (p+12)).1) (n:=p+20) m1;have x2:=Ip (up:=true) (p:=(rE fn x (p+80) (p+12)).2) (n:=p+20) m2;have bDK:R.pz (-1076)<=63/64*R.pz (-1075):=by
  have:=R.qA (-1075);rw[show(-1075:Int)-1=-1076 by rfl]at this;grind
 have y1:=Cl (p:=(rE fn x (p+80) (p+12)).1) (E:=-1076) (tI (by grind)) (by grind);have y2:=Cl (p:=(rE fn x (p+80) (p+12)).2) (E:=-1076) (tI (by grind)) (by grind);refine⟨so,co,bPN,bPM,b1.zA,b2.zA,⟨z1,z2,z3,z4⟩,q0,q1,q2,bE.zA,bGK,bGJ,V0,?_,?_,?_,?_,?_,?_,?_⟩
 ·have:=R.cG (show(-1100:Int)<=-1075 by omega);grind
 ·have:=R.cG (show(1075:Int)<=1090 by omega);grind
 ·rw[e8];exact bX
 ·constructor
  ·show((bl (shD false (rE fn x (p+80) (p+12)).1 (p+20)).1.natAbs:Nat):Int)<=_;omega
  ·show((bl (shD true (rE fn x (p+80) (p+12)).2 (p+20)).1.natAbs:Nat):Int)<=_;omega
 ·have P1200:R.pz 1100<=R.pz (-p-1400+((p+2600).toNat:Nat)):=R.cG (by omega);refine aAL (E:=-p-1400) (n:=(p+2600).toNat) bX.ph bX.pl.Fy ?_ ?_ (by grind) ?_ (by omega) (by omega) (by omega)
  ·show -p-1400<=(shD true (rE fn x (p+80) (p+12)).2 (p+20)).2;omega
  ·show -p-1400<=(shD false (rE fn x (p+80) (p+12)).1 (p+20)).2;omega
  ·rw[oW,R.iJ];grind
 ·have bGN:R.pz p*z=1/1048576:=by
   rw[hz,<-R.jJ,show p+(-p-20)=-20 by omega];have e:=R.fS 0 (n:=20) (c:=1048576) (by norm_cast);rw[R.fV,show(0:Int)-((20:Nat):Int)=-20 by rfl]at e;grind
  have wd:=bX.wd;have lo:=bX.lo;have hi:=bX.hi;have m0:=bX.m0;have k1:=R.aF (cFS (R.dJ p)) (show 0<=4096*z*R.ab (R.fv fn (R.qz x) k)-(R.qz (eE fn x p).2-R.qz (eE fn x p).1) by grind);have k2:R.pz p*(4096*z*R.ab (R.fv fn (R.qz x) k))=R.ab (R.fv fn (R.qz x) k)/256:=by
   have:R.pz p*(4096*z*R.ab (R.fv fn (R.qz x) k))=4096*(R.pz p*z)*R.ab (R.fv fn (R.qz x) k):=by grind
   rw[this,bGN];grind
  refine aOW (by grind) ?_
  by_cases c:0<R.fv fn (R.qz x) k
  ·left;have s:=nX.2.2.2.2.1 c;rw[R.bG (cFS c)]at *;have e:=R.bG (cFS s);refine⟨s,?_⟩;have:=nX.1;rw[e]at this;grind
  ·right;have s:=nX.2.2.2.2.2.1 (by grind);have e:R.ab (R.qz (eE fn x p).2)=-R.qz (eE fn x p).2:=by rw[<-R.iJ,R.bG (by grind)]
   refine⟨s,?_⟩;have:=nX.2.2.1;rw[e]at this;grind
 ·intro h2;exact⟨Ra (by omega) (oE h2).1,Ra (by omega) (oE h2).2⟩
end M
namespace W
open Go AI M
namespace fA
def E:=mE [(83,Av.aJ)] 42 [26] [(3,[1])] [3]
def aE:=bd f172
theorem aX:Nk E aE:=nk
def J3 a:=mD E f172 aE 3 [dC a]
theorem start a b c:aH E f172 aE [D.s (sc (int i64 a)),D.s (sc (int u64 b)),D.s (sc (int i64 c))]=letI A:=some [D.s (sc (bool false)),D.s (sc (int i64 1))];aB (decide (a<1)) A (aB (decide (3<a)) A (aB (decide (c<1)) A (aB (decide (66000<c)) A (fA.J3 b)))):=eJ aX
theorem gU a:J3 a=letI A:=bif cS.fN 64 a then fB.fX (aI.fR 64) (a%9223372036854775808)else(0:Int);letI B:=some [D.s (sc (bool (A==0))),D.s (sc (int i64 6))];aO (((64:Int)=(32:Int)\/(64:Int)=(64:Int))/\0<=a/\a<18446744073709551616) (aB (A==3) B (aB (A==4) B (some [D.s (sc (bool (A==0))),D.s (sc (int i64 (bif cS.fN 64 a then(0:Int)else(2:Int))))]))):=cJ aX
def Np(b:Int):Int:=bif cS.fN 64 b then fB.fX (aI.fR 64) (b%9223372036854775808)else 0
def Tx(fn b p:Int):Int:=if fn<1 then 1 else if 3<fn then 1 else if p<1 then 1 else if 66000<p then 1 else if Np b=3 then 6 else if Np b=4 then 6 else bif cS.fN 64 b then 0 else 2
def aGS(fn b p:Int):Bool:=if fn<1 then false else if 3<fn then false else if p<1 then false else if 66000<p then false else Np b==0
def sp(fn b p:Int):Prop×List D:=(0<=b/\b<18446744073709551616,[.s (.sc (.bool (aGS fn b p))),.s (.sc (.int .i64 (Tx fn b p)))])
theorem spec:oK E f172 aE (pN .i64) (pN .u64) (pN .i64) sp:=by
 intro fn b p h;refine(start fn b p).trans ?_;unfold sp Tx aGS;dsimp only
 by_cases c1:fn<1
 ·rw[aP c1,if_pos c1,if_pos c1]
 ·rw[aL c1,if_neg c1,if_neg c1]
  by_cases c2:3<fn
  ·rw[aP c2,if_pos c2,if_pos c2]
  ·rw[aL c2,if_neg c2,if_neg c2]
   by_cases c3:p<1
   ·rw[aP c3,if_pos c3,if_pos c3]
   ·rw[aL c3,if_neg c3,if_neg c3]
    by_cases c4:66000<p
    ·rw[aP c4,if_pos c4,if_pos c4]
    ·rw[aL c4,if_neg c4,if_neg c4,gU,gP ⟨Or.inr rfl,h.1,h.2⟩];show aB (Np b==3) (some [_,_]) (aB (Np b==4) (some [_,_]) (some [D.s (.sc (.bool (Np b==0))),_]))=_
     by_cases c5:Np b=3
     ·rw[cO c5,if_pos c5];rfl
     ·rw[bN c5,if_neg c5]
      by_cases c6:Np b=4
      ·rw[cO c6,if_pos c6];rfl
      ·rw[bN c6,if_neg c6]
def aJ:dK:=orc3 (pN .i64) (pN .u64) (pN .i64) sp
theorem ok:OK 172 aJ:=(eZ E aE (aA Av.ok aD) func172).yK rfl spec
end fA
namespace aAP
def E:=mE [(211,aZ.aJ),(115,mJ.aJ),(116,cD.aJ),(212,VTurned.aJ),(119,iS.aJ)] 72 [18,29,39,50,69] [] []
def aE:=bd f173
theorem aX:Nk E aE:=nk
theorem start a b c d:aH E f173 aE [D.s (sc (int i64 a)),D.s (sc (int u64 b)),D.s (sc (int i64 c)),D.s (sc (int i64 d))]=letI Z:=sc (int i64 0);letI F:=aZ.qM b;letI W:=aZ.Yb F c;letI U:=aZ.Ya F c;aO ((0<=b/\b<18446744073709551616)/\cS.fN 64 b=true/\cB.jD 64 b=true/\(1<=c/\c<=66590)/\jK F/\bl F.fst.natAbs<=64/\(-1200:Int)<=F.snd/\F.snd<=1200) (aC (isNeg U.fst) fun e=>aC (M6.dg U.fst.natAbs) fun f=>aC U.snd fun g=>aC (isNeg W.fst) fun h=>aC (M6.dg W.fst.natAbs) fun i=>aC W.snd fun j=>letI G:=(e,f,g,h,i,j);letI P:=fG.Ka (dv (hI G)) (d+2);letI O:=fG.Jz (dv (gZ G)) (d+2);letI K:=bC.rT (dv (cD.zY G)) (d+2);letI I:=bC.qN (dv (cD.tH G)) (d+2);aO (mJ.Uj G d) (aC (isNeg O.fst) fun k=>aC (M6.dg O.fst.natAbs) fun l=>aC O.snd fun m=>aC (isNeg P.fst) fun n=>aC (M6.dg P.fst.natAbs) fun o=>aC P.snd fun p=>letI A1:=(k,l,m,n,o,p);aO (cD.aAC G d) (aC (isNeg K.fst) fun q=>aC (M6.dg K.fst.natAbs) fun r=>aC K.snd fun s=>aC (isNeg I.fst) fun t=>aC (M6.dg I.fst.natAbs) fun u=>aC I.snd fun v=>letI B1:=(q,r,s,t,u,v);letI A:=VTurned.trn (dv (gZ A1),dv (hI A1)) (dv (gZ B1),dv (hI B1)) (aZ.cQ F c).toNat;aO (eQ A1/\eQ B1/\0<=aZ.cQ F c/\aZ.cQ F c<=3) (aC (isNeg A.fst.fst.fst) fun w=>aC (M6.dg A.fst.fst.fst.natAbs) fun x=>aC A.fst.fst.snd fun y=>aC (isNeg A.fst.snd.fst) fun z=>aC (M6.dg A.fst.snd.fst.natAbs) fun aa=>aC A.fst.snd.snd fun ab=>letI N:=(w,x,y,z,aa,ab);letI D1:=dv (hI N);letI C1:=dv (gZ N);aC (isNeg A.snd.fst.fst) fun ac=>aC (M6.dg A.snd.fst.fst.natAbs) fun ad=>aC A.snd.fst.snd fun ae=>aC (isNeg A.snd.snd.fst) fun af=>aC (M6.dg A.snd.snd.fst.natAbs) fun ag=>aC A.snd.snd.snd fun ah=>letI H:=(ac,ad,ae,af,ag,ah);letI Y:=dv (hI H);letI X:=dv (gZ H);letI C:=iS.Kj (i64.wrap (d+8)) C1 D1 X Y;letI T:=aN C.fst C.snd;letI B:=iS.Ki (i64.wrap (d+8)) C1 D1 X Y;letI Q:=aN B.fst B.snd;aB (a==1) (some [D.agg [sc (bool w),ints u64 x,sc (int i64 y),sc (bool z),ints u64 aa,sc (int i64 ab)],D.s Z]) (aB (a==2) (some [D.agg [sc (bool ac),ints u64 ad,sc (int i64 ae),sc (bool af),ints u64 ag,sc (int i64 ah)],D.s Z]) (aO (eQ N/\eQ H/\(1<=i64.wrap (d+8)/\i64.wrap (d+8)<=70000)/\fK.sJ X Y≠0/\(bl C1.fst.natAbs<=262144/\bl D1.fst.natAbs<=262144/\bl X.fst.natAbs<=262144/\bl Y.fst.natAbs<=262144)/\gY B.fst B.snd=true/\gY C.fst C.snd=true) (aC (isNeg Q.fst) fun ai=>aC (M6.dg Q.fst.natAbs) fun aj=>aC Q.snd fun ak=>aC (isNeg T.fst) fun al=>aC (M6.dg T.fst.natAbs) fun am=>aC T.snd fun an=>some [D.agg [sc (bool ai),ints u64 aj,sc (int i64 ak),sc (bool al),ints u64 am,sc (int i64 an)],D.s Z]))))))):=eJ aX
def sp(fn b w p:Int):Prop×List D:=((1<=fn/\fn<=3)/\(0<=b/\b<18446744073709551616)/\cS.fN 64 b=true/\cB.jD 64 b=true/\aAU (aZ.qM b)/\(13<=p/\p<=66012)/\w=p+68,[uX (rE fn (aZ.qM b) w p).1 (rE fn (aZ.qM b) w p).2,.s (.sc (.int .i64 0))])
theorem fold(a b:Int×Int):(isNeg a.1,M6.dg a.1.natAbs,a.2,isNeg b.1,M6.dg b.1.natAbs,b.2)=mN a b:=rfl
theorem spec:Om E f173 aE (pN .i64) (pN .u64) (pN .i64) (pN .i64) sp:=by
 rintro fn b w p ⟨hf,hb,aVS,oX,hx,hp,hw⟩;obtain⟨pp,rfl⟩:∃pp,p=pp+12:=⟨p-12,by omega⟩;obtain rfl:w=pp+80:=by omega
 refine(start fn b (pp+80) (pp+12)).trans ?_;obtain⟨k,hk⟩:=Ir (w:=pp+80) hx (by omega);have N:=xQ (fn:=fn) (p:=pp) hx (by omega) hf hk;have q4:0<=aZ.cQ (aZ.qM b) (pp+80)/\aZ.cQ (aZ.qM b) (pp+80)<=3:=by rw[hk.q];omega
 have eb:=hx.bl;have xe0:=hx.e0;have xe1:=hx.e1;have aHM:pp+12+2=pp+14:=by omega
 have bKZ:pp+12+8=pp+20:=by omega
 have bPH:i64.wrap (pp+20)=pp+20:=wrap_i64;have so:=N.so;have co:=N.co;have sS:=N.sS;have sC:=N.sC;have t1:=N.t1;have t2:=N.t2;obtain⟨z1,z2,z3,z4⟩:=N.z;unfold sp rE rQ;dsimp only;rw[aHM,bKZ,bPH,gP ⟨hb,aVS,oX,⟨by omega,by omega⟩,hx.vD,by omega,by omega,by omega⟩,aG,aG,aG,aG,aG,aG,fold];refine(gP so).trans ?_;rw[oN,oO,aG,aG,aG,aG,aG,aG,fold];refine(gP co).trans ?_;rw[aG,aG,aG,aG,aG,aG,fold];refine(gP ⟨sS,sC,q4.1,q4.2⟩).trans ?_;rw[oN,oO,oN,oO];have eT:VTurned.trn (fG.Jz (aZ.Ya (aZ.qM b) (pp+80)) (pp+14),fG.Ka (aZ.Yb (aZ.qM b) (pp+80)) (pp+14)) (bC.rT (dv (cD.zY (mN (aZ.Ya (aZ.qM b) (pp+80)) (aZ.Yb (aZ.qM b) (pp+80))))) (pp+14),bC.qN (dv (cD.tH (mN (aZ.Ya (aZ.qM b) (pp+80)) (aZ.Yb (aZ.qM b) (pp+80))))) (pp+14)) (aZ.cQ (aZ.qM b) (pp+80)).toNat=pZ (aZ.qM b) (pp+80) (pp+14):=rfl;rw[eT,aG,aG,aG,aG,aG,aG,aG,aG,aG,aG,aG,aG];have h3:fn=1\/fn=2\/fn=3:=by omega
 rcases h3 with rfl |rfl |rfl
 ·rfl
 ·rfl
 ·rw[bN (by decide),bN (by decide),fold,fold,oN,oO,oN,oO];have p1:1<=pp+20:=by omega
  have p2:pp+20<=70000:=by omega
  have y1:=bWK z1.1 (show 100000<=262144 by decide);have y2:=bWK z2.1 (show 100000<=262144 by decide);have y3:=bWK z3.1 (show 100000<=262144 by decide);have y4:=bWK z4.1 (show 100000<=262144 by decide);have c:=And.intro t1 (And.intro t2 (And.intro (And.intro p1 p2) (And.intro N.q0 (And.intro (And.intro y1 (And.intro y2 (And.intro y3 y4))) (And.intro N.q1 N.q2)))));refine(gP c).trans ?_;rw[aG,aG,aG,aG,aG,aG];rfl
def aJ:dK:=orc4 (pN .i64) (pN .u64) (pN .i64) (pN .i64) sp
theorem ok:OK 173 aJ:=(eZ E aE (aA aZ.ok (aA mJ.ok (aA cD.ok (aA VTurned.ok (aA iS.ok aD))))) func173).aOE rfl spec
end aAP
namespace Ah
def E:=mE [(162,Nf.aJ),(163,aYN.aJ),(164,Xj.aJ)] 31 [28] [] []
def aE:=bd f118
theorem aX:Nk E aE:=nk
theorem start a b d e f g c:aH E f118 aE [D.agg [sc (bool a),ints u64 b,sc (int i64 d)],D.agg [sc (bool e),ints u64 f,sc (int i64 g)],D.s (sc (int i64 c))]=letI B:=cE.nQ true (dv (e,f,g)).fst (dv (e,f,g)).snd c;letI F:=bif gY B.fst B.snd then aN B.fst B.snd else((0:Int),(0:Int));letI A:=cE.nQ false (dv (a,b,d)).fst (dv (a,b,d)).snd c;letI C:=bif gY A.fst A.snd then aN A.fst A.snd else((0:Int),(0:Int));aO (aQ (a,b,d)/\1<=c/\c<=70000) (aC (isNeg C.fst) fun h=>aC (M6.dg C.fst.natAbs) fun i=>aC C.snd fun j=>aC (bif gY A.fst A.snd then(0:Int)else(5:Int)) fun k=>aO (aQ (e,f,g)/\1<=c/\c<=70000) (aC (isNeg F.fst) fun l=>aC (M6.dg F.fst.natAbs) fun m=>aC F.snd fun n=>aC (bif gY B.fst B.snd then(0:Int)else(5:Int)) fun o=>aO (k=0/\o=0) (some [D.agg [sc (bool h),ints u64 i,sc (int i64 j),sc (bool l),ints u64 m,sc (int i64 n)],D.s (sc (int i64 0))]))):=eJ aX
def sp(x y:gE)(p:Int):Prop×List D:=(aQ x/\aQ y/\(1<=p/\p<=70000)/\wZ false (dv x) p=true/\wZ true (dv y) p=true,[uX (shD false (dv x) p) (shD true (dv y) p),.s (.sc (.int .i64 0))])
theorem spec:oK E f118 aE iX iX (pN .i64) sp:=by
 rintro x y p ⟨h1,h2,hp,i1,i2⟩;have bHK:gY (cE.nQ false (dv (x.1,x.2.1,x.2.2)).1 (dv (x.1,x.2.1,x.2.2)).2 p).1 (cE.nQ false (dv (x.1,x.2.1,x.2.2)).1 (dv (x.1,x.2.1,x.2.2)).2 p).2=true:=i1;have bHJ:gY (cE.nQ true (dv (y.1,y.2.1,y.2.2)).1 (dv (y.1,y.2.1,y.2.2)).2 p).1 (cE.nQ true (dv (y.1,y.2.1,y.2.2)).1 (dv (y.1,y.2.1,y.2.2)).2 p).2=true:=i2;refine(start x.1 x.2.1 x.2.2 y.1 y.2.1 y.2.2 p).trans ?_;simp only[aG];rw[gP ⟨h1,hp⟩,gP ⟨h2,hp⟩,bHK,bHJ,gP ⟨rfl,rfl⟩];rfl
def aJ:dK:=orc3 iX iX (pN .i64) sp
theorem ok:OK 118 aJ:=(eZ E aE (aA Nf.ok (aA aYN.ok (aA Xj.ok aD))) func118).yK rfl spec
end Ah
namespace aNK
def E:=mE [(117,Db.aJ),(118,Ah.aJ)] 23 [10,20] [] []
def aE:=bd f65
theorem aX:Nk E aE:=nk
theorem start a c d e f g b:aH E f65 aE [D.agg [sc (bool a),ints u64 c,sc (int i64 d),sc (bool e),ints u64 f,sc (int i64 g)],D.s (sc (int i64 b))]=letI C:=int i64 0;letI B:=M.shD true (dv (e,f,g)) b;letI A:=M.shD false (dv (a,c,d)) b;aO (eQ (a,c,d,e,f,g)) (aC (if 1<=b/\b<=70000 then(0:Int)else(1:Int)) fun h=>aB (h !=0) (some [D.agg [sc (bool false),sc (slice none 0 0),sc C,sc (bool false),sc (slice none 0 0),sc C],D.s (sc (int i64 h))]) (aO (aQ (a,c,d)/\aQ (e,f,g)/\(1<=b/\b<=70000)/\wZ false (dv (a,c,d)) b=true/\wZ true (dv (e,f,g)) b=true) (aC (isNeg A.fst) fun i=>aC (M6.dg A.fst.natAbs) fun j=>aC A.snd fun k=>aC (isNeg B.fst) fun l=>aC (M6.dg B.fst.natAbs) fun m=>aC B.snd fun n=>some [D.agg [sc (bool i),ints u64 j,sc (int i64 k),sc (bool l),ints u64 m,sc (int i64 n)],D.s (sc C)]))):=eJ aX
def sp(s:wV)(p:Int):Prop×List D:=(eQ s/\(1<=p/\p<=70000)/\wZ false (dv (gZ s)) p=true/\wZ true (dv (hI s)) p=true,[uX (shD false (dv (gZ s)) p) (shD true (dv (hI s)) p),.s (.sc (.int .i64 0))])
theorem spec:gT E f65 aE yJ (pN .i64) sp:=by
 rintro s p ⟨h1,hp,i1,i2⟩;refine(start s.1 s.2.1 s.2.2.1 s.2.2.2.1 s.2.2.2.2.1 s.2.2.2.2.2 p).trans ?_;rw[gP h1,aG,if_pos hp,gG rfl];exact gP ⟨h1.1,h1.2.1,hp,i1,i2⟩
def aJ:dK:=orc2 yJ (pN .i64) sp
theorem ok:OK 65 aJ:=(eZ E aE (aA Db.ok (aA Ah.ok aD)) func65).mT rfl spec
end aNK
namespace kC
def E:=mE [(172,fA.aJ),(113,Cz.aJ),(14,aNY.aJ),(173,aAP.aJ),(65,aNK.aJ),(174,Ev.aJ)] 93 [19,32,37,52,69,79] [(10,[0,1,2,6,10]),(6,[0,1,2,6,8]),(13,[0,1,2,6,10,11,12])] [6,13]
def aE:=bd f125
theorem aX:Nk E aE:=nk
def J6 a b c d e f g h:=mD E f125 aE 6 [bP a,dC b,bP c,dM 3 44 [cU d,sc (slice none 0 0),cV e,cU f,sc (slice none 0 0),cV g],Nq h]
def He a b c d e f g h:=qV E f125 aE 10 [bP a,dC b,bP c,dM 3 44 [cU d,sc (slice none 0 0),cV e,cU f,sc (slice none 0 0),cV g],bP h]
def Ql a b c d e f g h i j k l m n o:=mD E f125 aE 13 [bP a,dC b,bP c,dM 3 44 [cU d,sc (slice none 0 0),cV e,cU f,sc (slice none 0 0),cV g],bP h,dM 5 44 [cU i,fU j,cV k,cU l,fU m,cV n],bP o]
theorem start a b c:aH E f125 aE [D.s (sc (int i64 a)),D.s (sc (int u64 b)),D.s (sc (int i64 c))]=letI B:=int i64 0;letI A:=kC.J6 a b c false 0 false 0 (fA.aGS a b c);aO (0<=b/\b<18446744073709551616) (aB (fA.Tx a b c !=0) (some [D.agg [sc (bool false),sc (slice none 0 0),sc B,sc (bool false),sc (slice none 0 0),sc B],D.s (sc (int i64 (fA.Tx a b c)))]) (aB (fA.aGS a b c) (aB (a==2) (aO ((-9223372036854775808:Int)<=(1:Int)/\(1:Int)<(9223372036854775808:Int)) (aC (isNeg (aN 1 0).fst) fun d=>aC (M6.dg (aN 1 0).fst.natAbs) fun e=>aC (aN 1 0).snd fun f=>aO (aQ (d,e,f)) (some [D.agg [sc (bool d),ints u64 e,sc (int i64 f),sc (bool d),ints u64 e,sc (int i64 f)],D.s (sc B)]))) A) A)):=eJ aX
theorem Nb a b c d e f g h:J6 a b c d e f g h=aB h (aO ((-9223372036854775808:Int)<=(0:Int)/\(0:Int)<(9223372036854775808:Int)) (aC (isNeg (aN 0 0).fst) fun i=>aC (M6.dg (aN 0 0).fst.natAbs) fun j=>aC (aN 0 0).snd fun k=>aO (aQ (i,j,k)) (some [D.agg [sc (bool i),ints u64 j,sc (int i64 k),sc (bool i),ints u64 j,sc (int i64 k)],D.s (sc (int i64 0))]))) (kC.He a b c d e f g (i64.wrap (c+80))):=cJ aX
theorem qQ a b c d e f g h:He a b c d e f g h=letI A:=rE a (aZ.qM b) (if 68000<h then(68000:Int)else h) (i64.wrap (c+12));aO ((1<=a/\a<=3)/\(0<=b/\b<18446744073709551616)/\cS.fN 64 b=true/\cB.jD 64 b=true/\aAU (aZ.qM b)/\(13<=i64.wrap (c+12)/\i64.wrap (c+12)<=66012)/\(if 68000<h then(68000:Int)else h)=i64.wrap (c+12)+68) (aC (isNeg A.fst.fst) fun i=>aC (M6.dg A.fst.fst.natAbs) fun j=>aC A.fst.snd fun k=>aC (isNeg A.snd.fst) fun l=>aC (M6.dg A.snd.fst.natAbs) fun m=>aC A.snd.snd fun n=>kC.Ql a b c d e f g (if 68000<h then(68000:Int)else h) i j k l m n 0):=lJ aX
theorem yF a b c d e f g h i j k l m n o:Ql a b c d e f g h i j k l m n o=letI K:=int i64 0;letI H:=(i,j,k,l,m,n);letI G:=i64.wrap (c+20);letI C:=M.shD true (dv (hI H)) G;letI B:=M.shD false (dv (gZ H)) G;aB (o !=0) (some [D.agg [sc (bool false),sc (slice none 0 0),sc K,sc (bool false),sc (slice none 0 0),sc K],D.s (sc (int i64 o))]) (aO (eQ H/\(1<=i64.wrap (c+20)/\i64.wrap (c+20)<=70000)/\wZ false (dv (gZ H)) G=true/\wZ true (dv (hI H)) G=true) (aC (isNeg B.fst) fun p=>aC (M6.dg B.fst.natAbs) fun q=>aC B.snd fun r=>aC (isNeg C.fst) fun s=>aC (M6.dg C.fst.natAbs) fun t=>aC C.snd fun u=>letI F:=(p,q,r,s,t,u);letI I:=dv (gZ F);letI A:=some [D.agg [sc (bool p),ints u64 q,sc (int i64 r),sc (bool s),ints u64 t,sc (int i64 u)],D.s (sc K)];aO (eQ F/\(1<=c/\c<=70000)/\bI.jW (dv (hI F)) (-I.fst,I.snd)=true) (aC (Ev.aYQ I (dv (hI F)) c) fun v=>aB v A (aB (h==68000) A (kC.He a b c d e f g (i64.wrap (h+64))))))):=cJ aX
def aRH(fn b p:Int):(Int×Int)×(Int×Int):=if fA.Tx fn b p≠0 then((0,0),(0,0))else bif fA.aGS fn b p then(if fn=2 then((1,0),(1,0))else((0,0),(0,0)))else eE fn (aZ.qM b) p
def sp(fn b p:Int):Prop×List D:=(0<=b/\b<18446744073709551616,[uX (aRH fn b p).1 (aRH fn b p).2,.s (.sc (.int .i64 (fA.Tx fn b p)))])
theorem fold(a b:Int×Int):(isNeg a.1,M6.dg a.1.natAbs,a.2,isNeg b.1,M6.dg b.1.natAbs,b.2)=mN a b:=rfl
theorem aML{b:Int}(hb:0<=b/\b<18446744073709551616)(c0:fA.Np b≠0)(c3:fA.Np b≠3)(c4:fA.Np b≠4):cS.fN 64 b=true/\cB.jD 64 b=true/\aYM (bR.nB 64 b) (bR.nI 64 b):=by
 have hp:cS.fN 64 b=true:=rfl;unfold fA.Np at c0 c3 c4;rw[hp,cond_true]at c0 c3 c4;have e1:cN.kJ (aI.fR 64)=4503599627370496:=rfl;have e2:jZ.lK (aI.fR 64)=9218868437227405312:=rfl;have e3:cF.cT (aI.fR 64)=9223372036854775808:=rfl;have e4:(aI.fR 64).2.2.1=-1074:=rfl;unfold fB.fX at c0 c3 c4;rw[e1,e2]at c0 c3 c4;have n0:b%9223372036854775808≠0:=fun h=>by rw[h,if_pos rfl]at c0;exact c0 rfl
 have n1:b%9223372036854775808<9218868437227405312:=by
  rw[if_neg n0]at c3 c4
  by_cases h1:b%9223372036854775808<4503599627370496
  ·omega
  ·rw[if_neg h1]at c3 c4
   by_cases h2:b%9223372036854775808<9218868437227405312
   ·exact h2
   ·rw[if_neg h2]at c3 c4
    by_cases h3:b%9223372036854775808=9218868437227405312
    ·rw[if_pos h3]at c3;exact absurd rfl c3
    ·rw[if_neg h3]at c4;exact absurd rfl c4
 refine⟨hp,?_,?_⟩
 ·unfold cB.jD;rw[e2,e3];exact decide_eq_true n1
 ·have hz:(bR.nB 64 b).natAbs=(dV.qF (aI.fR 64) (b%9223372036854775808)).toNat:=by
   unfold bR.nB;rw[lP,e3]
  have hm:0<dV.qF (aI.fR 64) (b%9223372036854775808)/\dV.qF (aI.fR 64) (b%9223372036854775808)<9007199254740992:=by
   unfold dV.qF;rw[e1];split <;> omega
  have he:-1074<=bR.nI 64 b/\bR.nI 64 b<=971:=by
   unfold bR.nI dV.uA;rw[e1,e3,e4];split <;> omega
  exact⟨by omega,by omega,he.1,he.2⟩
theorem told{fn b p:Int}(c:fA.Tx fn b p=0)(hz:fA.aGS fn b p=false):(1<=fn/\fn<=3)/\(1<=p/\p<=66000)/\fA.Np b≠0/\fA.Np b≠3/\fA.Np b≠4:=by
  unfold fA.Tx at c;unfold fA.aGS at hz
  by_cases c1:fn<1
  ·rw[if_pos c1]at c;omega
  ·rw[if_neg c1]at c hz
   by_cases c2:3<fn
   ·rw[if_pos c2]at c;omega
   ·rw[if_neg c2]at c hz
    by_cases c3:p<1
    ·rw[if_pos c3]at c;omega
    ·rw[if_neg c3]at c hz
     by_cases c4:66000<p
     ·rw[if_pos c4]at c;omega
     ·rw[if_neg c4]at c hz
      by_cases c5:fA.Np b=3
      ·rw[if_pos c5]at c;omega
      ·rw[if_neg c5]at c
       by_cases c6:fA.Np b=4
       ·rw[if_pos c6]at c;omega
       ·exact⟨by omega,by omega,beq_eq_false_iff_ne.1 hz,c5,c6⟩
theorem spec:aXU E f125 aE (pN .i64) (pN .u64) (pN .i64) sp:=by
 intro fn b p h;have h:0<=b/\b<18446744073709551616:=h;have s:=(start fn b p).trans (gP h);unfold sp aRH;dsimp only
 by_cases c:fA.Tx fn b p=0
 ·rw[aW,c];rw[c,gG rfl]at s;cases hz:fA.aGS fn b p with
  |true =>
   rw[cond_true];rw[hz,bT]at s
   by_cases f2:fn=2
   ·rw[if_pos f2];have e:aN 1 0=(1,0):=by decide +kernel
    rw[cO f2,gP ⟨by decide,by decide⟩,e,aG,aG,aG,gP (dG (show jK (1,0)from e▸gM (gQ (by decide +kernel) (by decide +kernel)) (by decide +kernel)))]at s;exact⟨_,s,iD.refl _⟩
   ·rw[if_neg f2];have e:aN 0 0=(0,0):=fC ..;rw[bN f2,Nb,bT,gP ⟨by decide,by decide⟩,e,aG,aG,aG,gP (dG (show jK (0,0)from e▸gM (gQ (by decide +kernel) (by decide +kernel)) (by decide +kernel)))]at s;exact⟨_,s,iD.refl _⟩
  |false =>
   rw[cond_false];have hv:=told c hz;obtain⟨hf,hp,v0,v3,v4⟩:=hv;obtain⟨aVS,oX,hN⟩:=aML h v0 v3 v4;have hx:aAU (aZ.qM b):=bDP hN;obtain⟨k,hk⟩:=Ir (w:=p+80) hx (by omega);have N:=xQ (fn:=fn) (p:=p) hx hp hf hk;have w1:i64.wrap (p+80)=p+80:=wrap_i64;have w2:i64.wrap (p+12)=p+12:=wrap_i64;have w3:i64.wrap (p+20)=p+20:=wrap_i64;have p1:1<=p+20/\p+20<=70000:=⟨by omega,by omega⟩;have p2:1<=p/\p<=70000:=⟨by omega,by omega⟩;have bUV:p+80=p+12+68:=by omega
   have u:=N.bx;obtain⟨re,s1,s2,ok,th⟩:=And.intro N.re (And.intro N.s1 (And.intro N.s2 (And.intro N.ok N.thin)));have zA:eQ (mN (eE fn (aZ.qM b) p).1 (eE fn (aZ.qM b) p).2):=u.zA;unfold eE at ok th zA ⊢;rw[hz,bF,Nb,bF,w1,qQ,w2,if_neg (show ¬(68000:Int)<p+80 by omega),gP ⟨hf,h,aVS,oX,hx,⟨by omega,by omega⟩,bUV⟩]at s;generalize rE fn (aZ.qM b) (p+80) (p+12)=q at *;rw[aG,aG,aG,aG,aG,aG,yF,gG rfl,w3,fold,oN,oO]at s;have s:=s.trans (gP ⟨re,p1,s1,s2⟩);dsimp only at ok th zA ⊢;generalize M.shD false q.1 (p+20)=lo at *;generalize M.shD true q.2 (p+20)=hi at *;rw[aG,aG,aG,aG,aG,aG,fold,oN,oO]at s;have s:=s.trans (gP ⟨zA,p2,ok⟩);rw[aG,th,bT]at s;exact⟨_,s,iD.refl _⟩
 ·rw[if_pos c];rw[nC c]at s;refine⟨_,s,.cons ?_ (iD.refl _)⟩;have d0:M6.dg ((0,0):Int×Int).1.natAbs=[]:=M6.cK;unfold uX;dsimp only;rw[show(0:Int).natAbs=0 from rfl,M6.cK];exact yO.agg (.cons (Da.refl _) (.cons (Da.nil _) (.cons (Da.refl _) (.cons (Da.refl _) (.cons (Da.nil _) (yH.refl _))))))
def aJ:dK:=orc3 (pN .i64) (pN .u64) (pN .i64) sp
theorem ok:OK 125 aJ:=(eZ E aE (aA fA.ok (aA Cz.ok (aA aNY.ok (aA aAP.ok (aA aNK.ok (aA Ev.ok aD)))))) func125).bGH rfl spec
end kC
end W
namespace M
open Go AI W
theorem aMW{b:Int}:fA.Np b=(if b%9223372036854775808=0 then 0 else if b%9223372036854775808<4503599627370496 then 1 else if b%9223372036854775808<9218868437227405312 then 2 else if b%9223372036854775808=9218868437227405312 then 3 else 4):=by
 have hp:cS.fN 64 b=true:=rfl;have e1:cN.kJ (aI.fR 64)=4503599627370496:=rfl;have e2:jZ.lK (aI.fR 64)=9218868437227405312:=rfl;have e3:cF.cT (aI.fR 64)=9223372036854775808:=rfl;unfold fA.Np fB.fX;rw[hp,e1,e2,cond_true]
theorem aHU{fn b p:Int}:fA.Tx fn b p=if fn<1 then 1 else if 3<fn then 1 else if p<1 then 1 else if 66000<p then 1 else if b%9223372036854775808<9218868437227405312 then 0 else 6:=by
 have hp:cS.fN 64 b=true:=rfl;unfold fA.Tx;rw[aMW,hp,cond_true]
 repeat' (split <;> try rfl)
 all_goals omega
theorem aUC{fn b p:Int}(h:fA.Tx fn b p=0):fA.aGS fn b p=(b%9223372036854775808==0):=by
 rw[aHU]at h;unfold fA.aGS;rw[aMW]
 by_cases c1:fn<1
 ·rw[if_pos c1]at h;omega
 ·rw[if_neg c1]at h ⊢
  by_cases c2:3<fn
  ·rw[if_pos c2]at h;omega
  ·rw[if_neg c2]at h ⊢
   by_cases c3:p<1
   ·rw[if_pos c3]at h;omega
   ·rw[if_neg c3]at h ⊢
    by_cases c4:66000<p
    ·rw[if_pos c4]at h;omega
    ·rw[if_neg c4]at h ⊢
     by_cases c5:b%9223372036854775808=0
     ·rw[if_pos c5,beq_iff_eq.2 c5];rfl
     ·rw[if_neg c5,beq_eq_false_iff_ne.2 c5]
      repeat' (split <;> try rfl)
def Real(b:Int):Prop:=(0<=b/\b<18446744073709551616)/\fA.Np b≠0/\fA.Np b≠3/\fA.Np b≠4
theorem Real.n{b:Int}(h:Real b):aYM (bR.nB 64 b) (bR.nI 64 b):=(kC.aML h.1 h.2.1 h.2.2.1 h.2.2.2).2.2
theorem Real.x{b:Int}(h:Real b):aAU (aZ.qM b):=bDP h.n
theorem Real.q{b:Int}(_h:Real b):R.qz (aZ.qM b)=R.qz (bR.nB 64 b,bR.nI 64 b):=oI _ _
end M
namespace M
open Go AI W
open Classical in
def kx (b:Int):Int:=if h:∃k,R.rW (R.qz (aZ.qM b)) k then Classical.choose h else 0
theorem aCR{b:Int}(h:Real b):R.rW (R.qz (aZ.qM b)) (kx b):=by
 obtain⟨k,hk⟩:=Ir (w:=100) h.x (by omega);have e:∃k,R.rW (R.qz (aZ.qM b)) k:=⟨k,hk.Yz⟩;unfold kx;rw[dif_pos e];exact Classical.choose_spec e
theorem aXE{fn b p:Int}(h:Real b)(hf:1<=fn/\fn<=3)(hp:1<=p/\p<=66000):bEL fn (aZ.qM b) p (kx b):=by
 obtain⟨k,hk⟩:=Ir (w:=p+80) h.x (by omega);rw[R.aUD h.x.fit (aCR h) hk.Yz];exact xQ h.x hp hf hk
def vx(fn b:Int):Rat:=R.fv fn (R.qz (aZ.qM b)) (kx b)
theorem aPF{fn b p:Int}(hb:0<=b/\b<18446744073709551616)(c:fA.Tx fn b p=0)(hz:¬b%9223372036854775808=0):Real b/\(1<=fn/\fn<=3)/\(1<=p/\p<=66000)/\fA.aGS fn b p=false:=by
 have z:=aUC c;rw[beq_eq_false_iff_ne.2 hz]at z;obtain⟨hf,hp,v⟩:=kC.told c z;exact⟨⟨hb,v⟩,hf,hp,z⟩
theorem aMA{fn b p:Int}(c:fA.Tx fn b p=0)(hz:fA.aGS fn b p=false):kC.aRH fn b p=eE fn (aZ.qM b) p:=by
 unfold kC.aRH;rw[aW,hz,cond_false]
theorem bPS:R.qz (0,0)=0:=R.oC rfl
end M
namespace M
open Go AI W
structure bOX(x:Int×Int)(n:Nat)(E:Int)(B:Rat):Prop where
 vD:jK x
 bl:bl x.1.natAbs<=n
 e:E<=x.2
 b:R.ab (R.qz x)<=B
end M
namespace M
open Go AI W
theorem Dq(a b:Int×Int):R.qz (eI.gH a b)=R.qz a*R.qz b:=by
 unfold eI.gH;rw[oI,Rat.intCast_mul,R.jJ];unfold R.qz;grind
end M
namespace W
open Go AI M
namespace Th
def E:=mE [(120,Hb.aJ)] 9 [] [] []
def aE:=bd f170
theorem aX:Nk E aE:=nk
theorem start a b c d e f:aH E f170 aE [D.agg [sc (bool a),ints u64 b,sc (int i64 c)],D.agg [sc (bool d),ints u64 e,sc (int i64 f)]]=aO (aQ (a,b,c)/\aQ (d,e,f)) (some [D.s (sc (bool (decide (eF (dv (a,b,c)) (dv (d,e,f))<0))))]):=eJ aX
def sp(x y:gE):Prop×List D:=(aQ x/\aQ y,[.s (.sc (.bool (decide (eF (dv x) (dv y)<0))))])
theorem spec:gT E f170 aE iX iX sp:=by
 intro x y h;exact(start x.1 x.2.1 x.2.2 y.1 y.2.1 y.2.2).trans (gP h)
def aJ:dK:=orc2 iX iX sp
theorem ok:OK 170 aJ:=(eZ E aE (aA Hb.ok aD) func170).mT rfl spec
end Th
namespace SFirstL4
def E:=mE [(170,Th.aJ)] 25 [] [(3,[1,4,5,12,13,14])] []
def aE:=bd f168
theorem aX:Nk E aE:=nk
def L3 a b c d e (f:Nat) (g:Nat->Bool) (h:Nat->List Int) (j:Nat->Int) k l:=qV E f168 aE 3 [vA (sc (Value.func (Fn.func 170) { toList:=[] } { toList:=[] })),dM 1 29 [cU a,sc (slice none 0 0),cV b],dM 2 29 [cU c,fU d,cV e],(A.v (V.one (L.rows 3 f fun i=>[sc (bool (g i)),ints u64 (h i),sc (int i64 (j i))])),none),bP k,bP l]
theorem start(a:gE)(b:gE)(c:gE)(d:gE):aH E f168 aE [D.rows 3 4 fun i=>[sc (bool (t4 a b c d i).fst),ints u64 (t4 a b c d i).snd.fst,sc (int i64 (t4 a b c d i).snd.snd)],D.s (sc (Value.func (Fn.func (170:FuncId)) #[] #[]))]=letI A:=t4 a b c d (cJN 0);SFirstL4.L3 false 0 A.fst A.snd.fst A.snd.snd 3 (fun i=>(t4 a b c d (cJN 1+i)).fst) (fun i=>(t4 a b c d (cJN 1+i)).snd.fst) (fun i=>(t4 a b c d (cJN 1+i)).snd.snd) 3 0:=eJ aX
theorem Aq a b c d e f g h j k l:L3 a b c d e f g h j k l=letI A:=(g l.toNat,h l.toNat,j l.toNat);aB (decide (l<k)) (if 0<=l/\l<(f:Int)then aO (aQ A/\aQ (c,d,e)) (aB (decide (eF (dv A) (dv (c,d,e))<0)) (SFirstL4.L3 a b (g l.toNat) (h l.toNat) (j l.toNat) f (fun i=>g i) (fun i=>h i) (fun i=>j i) k (i64.wrap (l+1))) (SFirstL4.L3 a b c d e f (fun i=>g i) (fun i=>h i) (fun i=>j i) k (i64.wrap (l+1))))else none) (some [D.agg [sc (bool c),ints u64 d,sc (int i64 e)]]):=lJ aX
def best(f:Nat->gE):Nat->gE
 |0=>f 0
 |k+1=>bif decide (eF (dv (f (k+1))) (dv (best f k))<0)then f (k+1)else best f k
def Ib(a:gE×gE×gE×gE):gE:=best (t4 a.1 a.2.1 a.2.2.1 a.2.2.2) 3
def sp(a:gE×gE×gE×gE)(u:Unit):Prop×List D:=(aQ a.1/\aQ a.2.1/\aQ a.2.2.1/\aQ a.2.2.2,[.agg [.sc (.bool (Ib a).1),.ints .u64 (Ib a).2.1,.sc (.int .i64 (Ib a).2.2)]])
theorem xY{f:Nat->gE}{n:Nat}(hf:∀i,i<n->aQ (f i)):∀k,k<n->aQ (best f k)
 |0,h=>hf 0 h
 |k+1,h=>by
  unfold best;cases decide (eF (dv (f (k+1))) (dv (best f k))<0)
  ·exact xY hf k (by omega)
  ·exact hf (k+1) h
theorem L(b0:Bool)(x1:Int)(n:Nat)(f:Nat->gE)(hn:n<1000)(hf:∀i,i<n+1->aQ (f i)):∀d k:Nat,k+d=n->L3 b0 x1 (best f k).1 (best f k).2.1 (best f k).2.2 n (fun i=>(f (1+i)).1) (fun i=>(f (1+i)).2.1) (fun i=>(f (1+i)).2.2) (n:Int) (k:Int)=some [.agg [.sc (.bool (best f n).1),.ints .u64 (best f n).2.1,.sc (.int .i64 (best f n).2.2)]]
 |0,k,h=>by
  obtain rfl:k=n:=by omega
  rw[Aq,aL]
 |d+1,k,h=>by
  have e:i64.wrap ((k:Int)+1)=((k+1:Nat):Int):=by rw[wrap_i64];omega
  have r:=L b0 x1 n f hn hf d (k+1) (by omega);have g1:aQ (f (1+k)):=hf _ (by omega);have g2:aQ (best f k):=xY hf k (by omega);have c1:f (k+1)=f (1+k):=by rw[Nat.add_comm]
  rw[Aq,aP,aU,bZL,gP ⟨g1,g2⟩,e]
  by_cases hc:eF (dv (f (k+1))) (dv (best f k))<0
  ·have hb:best f (k+1)=f (1+k):=by
    rw[<-c1];show(bif decide (eF (dv (f (k+1))) (dv (best f k))<0)then f (k+1)else best f k)=_;rw[decide_eq_true hc];rfl
   rw[c1]at hc;rw[aP hc];rw[hb]at r;exact r
  ·have hb:best f (k+1)=best f k:=by
    show(bif decide (eF (dv (f (k+1))) (dv (best f k))<0)then f (k+1)else best f k)=_;rw[decide_eq_false hc];rfl
   rw[c1]at hc;rw[aL hc];rw[hb]at r;exact r
theorem all{a:gE×gE×gE×gE}(h:aQ a.1/\aQ a.2.1/\aQ a.2.2.1/\aQ a.2.2.2):∀i,i<4->aQ (t4 a.1 a.2.1 a.2.2.1 a.2.2.2 i):=fun i hi=>by
  obtain rfl |rfl |rfl |rfl:i=0\/i=1\/i=2\/i=3:=by omega
  ·exact h.1
  ·exact h.2.1
  ·exact h.2.2.1
  ·exact h.2.2.2
theorem aAE{a:gE×gE×gE×gE}(h:aQ a.1/\aQ a.2.1/\aQ a.2.2.1/\aQ a.2.2.2):aQ (Ib a):=xY (n:=4) (all h) 3 (by decide)
theorem spec:gT E f168 aE (aSV (.pair sB (.pair (sI .u64) (sN .i64))) (false,[],0)) (pFn 170) sp:=fun a u h =>
 (start a.1 a.2.1 a.2.2.1 a.2.2.2).trans (L false 0 3 (t4 a.1 a.2.1 a.2.2.1 a.2.2.2) (by decide) (all h) 3 0 (by decide))
def aJ:dK:=orc2 (aSV (.pair sB (.pair (sI .u64) (sN .i64))) (false,[],0)) (pFn 170) sp
theorem ok:OK 168 aJ:=(eZ E aE (aA Th.ok aD) func168).mT rfl spec
end SFirstL4
namespace Tg
def E:=mE [(168,SFirstL4.aJ)] 5 [] [] []
def aE:=bd f122
theorem aX:Nk E aE:=nk
theorem start(a:gE)(b:gE)(c:gE)(d:gE):aH E f122 aE [D.rows 3 4 fun i=>[sc (bool (t4 a b c d i).fst),ints u64 (t4 a b c d i).snd.fst,sc (int i64 (t4 a b c d i).snd.snd)]]=letI G:=t4 a b c d 3;letI F:=t4 a b c d 2;letI K:=(F.fst,F.snd.fst,F.snd.snd);letI C:=t4 a b c d 1;letI I:=(C.fst,C.snd.fst,C.snd.snd);letI B:=t4 a b c d 0;letI H:=(B.fst,B.snd.fst,B.snd.snd);letI A:=SFirstL4.Ib (H,I,K,G.fst,G.snd.fst,G.snd.snd);aO (aQ H/\aQ I/\aQ K/\aQ (G.fst,G.snd.fst,G.snd.snd)) (some [D.agg [sc (bool A.fst),ints u64 A.snd.fst,sc (int i64 A.snd.snd)]]):=eJ aX
def sp(a:gE×gE×gE×gE):Prop×List D:=(aQ a.1/\aQ a.2.1/\aQ a.2.2.1/\aQ a.2.2.2,[.agg [.sc (.bool (SFirstL4.Ib a).1),.ints .u64 (SFirstL4.Ib a).2.1,.sc (.int .i64 (SFirstL4.Ib a).2.2)]])
theorem spec:jE E f122 aE (aSV (.pair sB (.pair (sI .u64) (sN .i64))) (false,[],0)) sp:=fun a h =>
 (start a.1 a.2.1 a.2.2.1 a.2.2.2).trans (gP h)
def aJ:dK:=orc1 (aSV (.pair sB (.pair (sI .u64) (sN .i64))) (false,[],0)) sp
theorem ok:OK 122 aJ:=(eZ E aE (aA SFirstL4.ok aD) func122).pU rfl spec
end Tg
namespace Tj
def E:=mE [(120,Hb.aJ)] 9 [] [] []
def aE:=bd f169
theorem aX:Nk E aE:=nk
theorem start a b c d e f:aH E f169 aE [D.agg [sc (bool a),ints u64 b,sc (int i64 c)],D.agg [sc (bool d),ints u64 e,sc (int i64 f)]]=aO (aQ (a,b,c)/\aQ (d,e,f)) (some [D.s (sc (bool (decide (0<eF (dv (a,b,c)) (dv (d,e,f))))))]):=eJ aX
def sp(x y:gE):Prop×List D:=(aQ x/\aQ y,[.s (.sc (.bool (decide (0<eF (dv x) (dv y)))))])
theorem spec:gT E f169 aE iX iX sp:=by
 intro x y h;exact(start x.1 x.2.1 x.2.2 y.1 y.2.1 y.2.2).trans (gP h)
def aJ:dK:=orc2 iX iX sp
theorem ok:OK 169 aJ:=(eZ E aE (aA Hb.ok aD) func169).mT rfl spec
end Tj
namespace SFirstG4
def E:=mE [(169,Tj.aJ)] 25 [] [(3,[1,4,5,12,13,14])] []
def aE:=bd f168
theorem aX:Nk E aE:=nk
def L3 a b c d e (f:Nat) (g:Nat->Bool) (h:Nat->List Int) (j:Nat->Int) k l:=qV E f168 aE 3 [vA (sc (Value.func (Fn.func 169) { toList:=[] } { toList:=[] })),dM 1 29 [cU a,sc (slice none 0 0),cV b],dM 2 29 [cU c,fU d,cV e],(A.v (V.one (L.rows 3 f fun i=>[sc (bool (g i)),ints u64 (h i),sc (int i64 (j i))])),none),bP k,bP l]
theorem start(a:gE)(b:gE)(c:gE)(d:gE):aH E f168 aE [D.rows 3 4 fun i=>[sc (bool (t4 a b c d i).fst),ints u64 (t4 a b c d i).snd.fst,sc (int i64 (t4 a b c d i).snd.snd)],D.s (sc (Value.func (Fn.func (169:FuncId)) #[] #[]))]=letI A:=t4 a b c d (cJN 0);SFirstG4.L3 false 0 A.fst A.snd.fst A.snd.snd 3 (fun i=>(t4 a b c d (cJN 1+i)).fst) (fun i=>(t4 a b c d (cJN 1+i)).snd.fst) (fun i=>(t4 a b c d (cJN 1+i)).snd.snd) 3 0:=eJ aX
theorem Aq a b c d e f g h j k l:L3 a b c d e f g h j k l=letI A:=(g l.toNat,h l.toNat,j l.toNat);aB (decide (l<k)) (if 0<=l/\l<(f:Int)then aO (aQ A/\aQ (c,d,e)) (aB (decide (0<eF (dv A) (dv (c,d,e)))) (SFirstG4.L3 a b (g l.toNat) (h l.toNat) (j l.toNat) f (fun i=>g i) (fun i=>h i) (fun i=>j i) k (i64.wrap (l+1))) (SFirstG4.L3 a b c d e f (fun i=>g i) (fun i=>h i) (fun i=>j i) k (i64.wrap (l+1))))else none) (some [D.agg [sc (bool c),ints u64 d,sc (int i64 e)]]):=lJ aX
def best(f:Nat->gE):Nat->gE
 |0=>f 0
 |k+1=>bif decide (0<eF (dv (f (k+1))) (dv (best f k)))then f (k+1)else best f k
def Ib(a:gE×gE×gE×gE):gE:=best (t4 a.1 a.2.1 a.2.2.1 a.2.2.2) 3
def sp(a:gE×gE×gE×gE)(u:Unit):Prop×List D:=(aQ a.1/\aQ a.2.1/\aQ a.2.2.1/\aQ a.2.2.2,[.agg [.sc (.bool (Ib a).1),.ints .u64 (Ib a).2.1,.sc (.int .i64 (Ib a).2.2)]])
theorem xY{f:Nat->gE}{n:Nat}(hf:∀i,i<n->aQ (f i)):∀k,k<n->aQ (best f k)
 |0,h=>hf 0 h
 |k+1,h=>by
  unfold best;cases decide (0<eF (dv (f (k+1))) (dv (best f k)))
  ·exact xY hf k (by omega)
  ·exact hf (k+1) h
theorem L(b0:Bool)(x1:Int)(n:Nat)(f:Nat->gE)(hn:n<1000)(hf:∀i,i<n+1->aQ (f i)):∀d k:Nat,k+d=n->L3 b0 x1 (best f k).1 (best f k).2.1 (best f k).2.2 n (fun i=>(f (1+i)).1) (fun i=>(f (1+i)).2.1) (fun i=>(f (1+i)).2.2) (n:Int) (k:Int)=some [.agg [.sc (.bool (best f n).1),.ints .u64 (best f n).2.1,.sc (.int .i64 (best f n).2.2)]]
 |0,k,h=>by
  obtain rfl:k=n:=by omega
  rw[Aq,aL]
 |d+1,k,h=>by
  have e:i64.wrap ((k:Int)+1)=((k+1:Nat):Int):=by rw[wrap_i64];omega
  have r:=L b0 x1 n f hn hf d (k+1) (by omega);have g1:aQ (f (1+k)):=hf _ (by omega);have g2:aQ (best f k):=xY hf k (by omega);have c1:f (k+1)=f (1+k):=by rw[Nat.add_comm]
  rw[Aq,aP,aU,bZL,gP ⟨g1,g2⟩,e]
  by_cases hc:0<eF (dv (f (k+1))) (dv (best f k))
  ·have hb:best f (k+1)=f (1+k):=by
    rw[<-c1];show(bif decide (0<eF (dv (f (k+1))) (dv (best f k)))then f (k+1)else best f k)=_;rw[decide_eq_true hc];rfl
   rw[c1]at hc;rw[aP hc];rw[hb]at r;exact r
  ·have hb:best f (k+1)=best f k:=by
    show(bif decide (0<eF (dv (f (k+1))) (dv (best f k)))then f (k+1)else best f k)=_;rw[decide_eq_false hc];rfl
   rw[c1]at hc;rw[aL hc];rw[hb]at r;exact r
theorem all{a:gE×gE×gE×gE}(h:aQ a.1/\aQ a.2.1/\aQ a.2.2.1/\aQ a.2.2.2):∀i,i<4->aQ (t4 a.1 a.2.1 a.2.2.1 a.2.2.2 i):=fun i hi=>by
  obtain rfl |rfl |rfl |rfl:i=0\/i=1\/i=2\/i=3:=by omega
  ·exact h.1
  ·exact h.2.1
  ·exact h.2.2.1
  ·exact h.2.2.2
theorem aAE{a:gE×gE×gE×gE}(h:aQ a.1/\aQ a.2.1/\aQ a.2.2.1/\aQ a.2.2.2):aQ (Ib a):=xY (n:=4) (all h) 3 (by decide)
theorem spec:gT E f168 aE (aSV (.pair sB (.pair (sI .u64) (sN .i64))) (false,[],0)) (pFn 169) sp:=fun a u h =>
 (start a.1 a.2.1 a.2.2.1 a.2.2.2).trans (L false 0 3 (t4 a.1 a.2.1 a.2.2.1 a.2.2.2) (by decide) (all h) 3 0 (by decide))
def aJ:dK:=orc2 (aSV (.pair sB (.pair (sI .u64) (sN .i64))) (false,[],0)) (pFn 169) sp
theorem ok:OK 168 aJ:=(eZ E aE (aA Tj.ok aD) func168).mT rfl spec
end SFirstG4
namespace Ti
def E:=mE [(168,SFirstG4.aJ)] 5 [] [] []
def aE:=bd f121
theorem aX:Nk E aE:=nk
theorem start(a:gE)(b:gE)(c:gE)(d:gE):aH E f121 aE [D.rows 3 4 fun i=>[sc (bool (t4 a b c d i).fst),ints u64 (t4 a b c d i).snd.fst,sc (int i64 (t4 a b c d i).snd.snd)]]=letI G:=t4 a b c d 3;letI F:=t4 a b c d 2;letI K:=(F.fst,F.snd.fst,F.snd.snd);letI C:=t4 a b c d 1;letI I:=(C.fst,C.snd.fst,C.snd.snd);letI B:=t4 a b c d 0;letI H:=(B.fst,B.snd.fst,B.snd.snd);letI A:=SFirstG4.Ib (H,I,K,G.fst,G.snd.fst,G.snd.snd);aO (aQ H/\aQ I/\aQ K/\aQ (G.fst,G.snd.fst,G.snd.snd)) (some [D.agg [sc (bool A.fst),ints u64 A.snd.fst,sc (int i64 A.snd.snd)]]):=eJ aX
def sp(a:gE×gE×gE×gE):Prop×List D:=(aQ a.1/\aQ a.2.1/\aQ a.2.2.1/\aQ a.2.2.2,[.agg [.sc (.bool (SFirstG4.Ib a).1),.ints .u64 (SFirstG4.Ib a).2.1,.sc (.int .i64 (SFirstG4.Ib a).2.2)]])
theorem spec:jE E f121 aE (aSV (.pair sB (.pair (sI .u64) (sN .i64))) (false,[],0)) sp:=fun a h =>
 (start a.1 a.2.1 a.2.2.1 a.2.2.2).trans (gP h)
def aJ:dK:=orc1 (aSV (.pair sB (.pair (sI .u64) (sN .i64))) (false,[],0)) sp
theorem ok:OK 121 aJ:=(eZ E aE (aA SFirstG4.ok aD) func121).pU rfl spec
end Ti
namespace SMul
def E:Env:={ ({ base with C:=callsOf [(117,yB.aJ),(155,eI.aJ),(122,Tg.aJ),(121,Ti.aJ),(118,Ah.aJ)],roll:=tlook [(6,3),(9,3)] })with nt:=69,own:=[20,48,66],keep:=fun k=>(tlook [(9,[2,4,6,9,11,29,30,31,39,40,41]),(6,[2,4,6,9,29,30,31])] k).getD [],cut:=tlook [(17,[2,6,1000009])] }
def aE:=bd f114
theorem start a b d e f g h i j k l m c:aH E f114 aE [D.agg [sc (bool a),ints u64 b,sc (int i64 d),sc (bool e),ints u64 f,sc (int i64 g)],D.agg [sc (bool h),ints u64 i,sc (int i64 j),sc (bool k),ints u64 l,sc (int i64 m)],D.s (sc (int i64 c))]=aO (eQ (a,b,d,e,f,g)/\eQ (h,i,j,k,l,m)) (aC (if 1<=c/\c<=70000 then(0:Int)else(1:Int)) fun n=>aB (n !=0) (some [D.agg [sc (bool false),sc (slice none 0 0),sc (int i64 0),sc (bool false),sc (slice none 0 0),sc (int i64 0)],D.s (sc (int i64 n))]) (aO (aQ (a,b,d)/\aQ (h,i,j)) (aC (isNeg (bif eI.lM (dv (a,b,d)) (dv (h,i,j))then eI.gH (dv (a,b,d)) (dv (h,i,j))else((0:Int),(0:Int))).fst) fun o=>aC (M6.dg (bif eI.lM (dv (a,b,d)) (dv (h,i,j))then eI.gH (dv (a,b,d)) (dv (h,i,j))else((0:Int),(0:Int))).fst.natAbs) fun p=>aC (bif eI.lM (dv (a,b,d)) (dv (h,i,j))then eI.gH (dv (a,b,d)) (dv (h,i,j))else((0:Int),(0:Int))).snd fun q=>aC (bif eI.lM (dv (a,b,d)) (dv (h,i,j))then(0:Int)else(5:Int)) fun r=>aB (r !=0) (some [D.agg [sc (bool false),sc (slice none 0 0),sc (int i64 0),sc (bool false),sc (slice none 0 0),sc (int i64 0)],D.s (sc (int i64 r))]) (aO (aQ (a,b,d)/\aQ (k,l,m)) (aC (isNeg (bif eI.lM (dv (a,b,d)) (dv (k,l,m))then eI.gH (dv (a,b,d)) (dv (k,l,m))else((0:Int),(0:Int))).fst) fun s=>aC (M6.dg (bif eI.lM (dv (a,b,d)) (dv (k,l,m))then eI.gH (dv (a,b,d)) (dv (k,l,m))else((0:Int),(0:Int))).fst.natAbs) fun t=>aC (bif eI.lM (dv (a,b,d)) (dv (k,l,m))then eI.gH (dv (a,b,d)) (dv (k,l,m))else((0:Int),(0:Int))).snd fun u=>aC (bif eI.lM (dv (a,b,d)) (dv (k,l,m))then(0:Int)else(5:Int)) fun v=>aB (v !=0) (some [D.agg [sc (bool false),sc (slice none 0 0),sc (int i64 0),sc (bool false),sc (slice none 0 0),sc (int i64 0)],D.s (sc (int i64 v))]) (aO (aQ (e,f,g)/\aQ (h,i,j)) (aC (isNeg (bif eI.lM (dv (e,f,g)) (dv (h,i,j))then eI.gH (dv (e,f,g)) (dv (h,i,j))else((0:Int),(0:Int))).fst) fun w=>aC (M6.dg (bif eI.lM (dv (e,f,g)) (dv (h,i,j))then eI.gH (dv (e,f,g)) (dv (h,i,j))else((0:Int),(0:Int))).fst.natAbs) fun x=>aC (bif eI.lM (dv (e,f,g)) (dv (h,i,j))then eI.gH (dv (e,f,g)) (dv (h,i,j))else((0:Int),(0:Int))).snd fun y=>aC (bif eI.lM (dv (e,f,g)) (dv (h,i,j))then(0:Int)else(5:Int)) fun z=>aB (z !=0) (some [D.agg [sc (bool false),sc (slice none 0 0),sc (int i64 0),sc (bool false),sc (slice none 0 0),sc (int i64 0)],D.s (sc (int i64 z))]) (aO (aQ (e,f,g)/\aQ (k,l,m)) (aC (isNeg (bif eI.lM (dv (e,f,g)) (dv (k,l,m))then eI.gH (dv (e,f,g)) (dv (k,l,m))else((0:Int),(0:Int))).fst) fun aa=>aC (M6.dg (bif eI.lM (dv (e,f,g)) (dv (k,l,m))then eI.gH (dv (e,f,g)) (dv (k,l,m))else((0:Int),(0:Int))).fst.natAbs) fun ab=>aC (bif eI.lM (dv (e,f,g)) (dv (k,l,m))then eI.gH (dv (e,f,g)) (dv (k,l,m))else((0:Int),(0:Int))).snd fun ac=>aC (bif eI.lM (dv (e,f,g)) (dv (k,l,m))then(0:Int)else(5:Int)) fun ad=>aB (ad !=0) (some [D.agg [sc (bool false),sc (slice none 0 0),sc (int i64 0),sc (bool false),sc (slice none 0 0),sc (int i64 0)],D.s (sc (int i64 ad))]) (aO (aQ (o,p,q)/\aQ (s,t,u)/\aQ (w,x,y)/\aQ (aa,ab,ac)) (aC (SFirstL4.Ib ((o,p,q),(s,t,u),(w,x,y),aa,ab,ac)).fst fun ae=>aC (SFirstL4.Ib ((o,p,q),(s,t,u),(w,x,y),aa,ab,ac)).snd.fst fun af=>aC (SFirstL4.Ib ((o,p,q),(s,t,u),(w,x,y),aa,ab,ac)).snd.snd fun ag=>aO (aQ (o,p,q)/\aQ (s,t,u)/\aQ (w,x,y)/\aQ (aa,ab,ac)) (aC (SFirstG4.Ib ((o,p,q),(s,t,u),(w,x,y),aa,ab,ac)).fst fun ah=>aC (SFirstG4.Ib ((o,p,q),(s,t,u),(w,x,y),aa,ab,ac)).snd.fst fun ai=>aC (SFirstG4.Ib ((o,p,q),(s,t,u),(w,x,y),aa,ab,ac)).snd.snd fun aj=>aO (aQ (ae,af,ag)/\aQ (ah,ai,aj)/\(1<=c/\c<=70000)/\wZ false (dv (ae,af,ag)) c=true/\wZ true (dv (ah,ai,aj)) c=true) (aC (isNeg (M.shD false (dv (ae,af,ag)) c).fst) fun ak=>aC (M6.dg (M.shD false (dv (ae,af,ag)) c).fst.natAbs) fun al=>aC (M.shD false (dv (ae,af,ag)) c).snd fun am=>aC (isNeg (M.shD true (dv (ah,ai,aj)) c).fst) fun an=>aC (M6.dg (M.shD true (dv (ah,ai,aj)) c).fst.natAbs) fun ao=>aC (M.shD true (dv (ah,ai,aj)) c).snd fun ap=>some [D.agg [sc (bool ak),ints u64 al,sc (int i64 am),sc (bool an),ints u64 ao,sc (int i64 ap)],D.s (sc (int i64 0))]))))))))))))):=by kernel_rfl
def zJ(a b:(Int×Int)×(Int×Int)):Int×Int:=Kt (Kt (Kt (eI.gH a.1 b.1) (eI.gH a.1 b.2)) (eI.gH a.2 b.1)) (eI.gH a.2 b.2)
def zK(a b:(Int×Int)×(Int×Int)):Int×Int:=Lq (Lq (Lq (eI.gH a.1 b.1) (eI.gH a.1 b.2)) (eI.gH a.2 b.1)) (eI.gH a.2 b.2)
def aPY(a b:(Int×Int)×(Int×Int)):Prop:=eI.lM a.1 b.1=true/\eI.lM a.1 b.2=true/\eI.lM a.2 b.1=true/\eI.lM a.2 b.2=true
abbrev eS(s:wV):(Int×Int)×(Int×Int):=(dv (gZ s),dv (hI s))
def sp(s t:wV)(p:Int):Prop×List D:=((eQ s/\eQ t)/\(1<=p/\p<=70000)/\aPY (eS s) (eS t)/\wZ false (zJ (eS s) (eS t)) p=true/\wZ true (zK (eS s) (eS t)) p=true,[uX (shD false (zJ (eS s) (eS t)) p) (shD true (zK (eS s) (eS t)) p),.s (.sc (.int .i64 0))])
theorem Iu{p q:Int×Int}(h:eI.lM p q=true):jK (eI.gH p q):=by
 unfold eI.lM at h;rw[bVU]at h;exact gM h.2 (of_decide_eq_true h.1)
theorem bQF(a:gE×gE×gE×gE):dv (SFirstL4.Ib a)=Kt (Kt (Kt (dv a.1) (dv a.2.1)) (dv a.2.2.1)) (dv a.2.2.2):=by
 have st:∀x y:gE,dv (bif decide (eF (dv x) (dv y)<0)then x else y)=Kt (dv y) (dv x):=by
  intro x y;unfold Kt;cases decide (eF (dv x) (dv y)<0) <;> rfl
 show dv (bif decide (eF (dv a.2.2.2) (dv (bif decide (eF (dv a.2.2.1) (dv (bif decide (eF (dv a.2.1) (dv a.1)<0)then a.2.1 else a.1))<0)then a.2.2.1 else(bif decide (eF (dv a.2.1) (dv a.1)<0)then a.2.1 else a.1)))<0)then a.2.2.2 else(bif decide (eF (dv a.2.2.1) (dv (bif decide (eF (dv a.2.1) (dv a.1)<0)then a.2.1 else a.1))<0)then a.2.2.1 else(bif decide (eF (dv a.2.1) (dv a.1)<0)then a.2.1 else a.1)))=_;rw[st,st,st]
theorem bUN(a:gE×gE×gE×gE):dv (SFirstG4.Ib a)=Lq (Lq (Lq (dv a.1) (dv a.2.1)) (dv a.2.2.1)) (dv a.2.2.2):=by
 have st:∀x y:gE,dv (bif decide (0<eF (dv x) (dv y))then x else y)=Lq (dv y) (dv x):=by
  intro x y;unfold Lq;cases decide (0<eF (dv x) (dv y)) <;> rfl
 show dv (bif decide (0<eF (dv a.2.2.2) (dv (bif decide (0<eF (dv a.2.2.1) (dv (bif decide (0<eF (dv a.2.1) (dv a.1))then a.2.1 else a.1)))then a.2.2.1 else(bif decide (0<eF (dv a.2.1) (dv a.1))then a.2.1 else a.1))))then a.2.2.2 else(bif decide (0<eF (dv a.2.2.1) (dv (bif decide (0<eF (dv a.2.1) (dv a.1))then a.2.1 else a.1)))then a.2.2.1 else(bif decide (0<eF (dv a.2.1) (dv a.1))then a.2.1 else a.1)))=_;rw[st,st,st]
theorem spec:oK E f114 aE yJ yJ (pN .i64) sp:=by
 rintro s t p ⟨⟨h1,h2⟩,hp,⟨m1,m2,m3,m4⟩,i1,i2⟩;have hL:aQ (s.1,s.2.1,s.2.2.1):=h1.1;have hH:aQ (s.2.2.2.1,s.2.2.2.2.1,s.2.2.2.2.2):=h1.2.1;have kL:aQ (t.1,t.2.1,t.2.2.1):=h2.1;have kH:aQ (t.2.2.2.1,t.2.2.2.2.1,t.2.2.2.2.2):=h2.2.1;refine(start s.1 s.2.1 s.2.2.1 s.2.2.2.1 s.2.2.2.2.1 s.2.2.2.2.2 t.1 t.2.1 t.2.2.1 t.2.2.2.1 t.2.2.2.2.1 t.2.2.2.2.2 p).trans ?_;unfold sp zJ zK eS at *;dsimp only at *;unfold gZ hI at *;generalize ha:dv (s.1,s.2.1,s.2.2.1)=a at *;generalize hb:dv (s.2.2.2.1,s.2.2.2.2.1,s.2.2.2.2.2)=b at *;generalize hc:dv (t.1,t.2.1,t.2.2.1)=c at *;generalize hd:dv (t.2.2.2.1,t.2.2.2.2.1,t.2.2.2.2.2)=d at *;have d1:=dG (Iu m1);have d2:=dG (Iu m2);have d3:=dG (Iu m3);have d4:=dG (Iu m4);have e1:=dU (eI.gH a c);have e2:=dU (eI.gH a d);have e3:=dU (eI.gH b c);have e4:=dU (eI.gH b d);rw[gP ⟨h1,h2⟩,aG,if_pos hp,gG rfl,gP ⟨hL,kL⟩];simp only[aG,m1,m2,m3,m4,cond_true];rw[gG rfl,gP ⟨hL,kH⟩,gG rfl,gP ⟨hH,kL⟩,gG rfl,gP ⟨hH,kH⟩,gG rfl];obtain⟨Q,hQ⟩:∃Q:gE×gE×gE×gE,Q=((isNeg (eI.gH a c).1,M6.dg (eI.gH a c).1.natAbs,(eI.gH a c).2),(isNeg (eI.gH a d).1,M6.dg (eI.gH a d).1.natAbs,(eI.gH a d).2),(isNeg (eI.gH b c).1,M6.dg (eI.gH b c).1.natAbs,(eI.gH b c).2),(isNeg (eI.gH b d).1,M6.dg (eI.gH b d).1.natAbs,(eI.gH b d).2)):=⟨_,rfl⟩;have dQ:aQ Q.1/\aQ Q.2.1/\aQ Q.2.2.1/\aQ Q.2.2.2:=by rw[hQ];exact⟨d1,d2,d3,d4⟩
 have v1:=bQF Q;have v2:=bUN Q;have k1:=SFirstL4.aAE dQ;have k2:=SFirstG4.aAE dQ;rw[show dv Q.1=eI.gH a c by rw[hQ];exact e1,show dv Q.2.1=eI.gH a d by rw[hQ];exact e2,show dv Q.2.2.1=eI.gH b c by rw[hQ];exact e3,show dv Q.2.2.2=eI.gH b d by rw[hQ];exact e4]at v1 v2;rw[gP ⟨d1,d2,d3,d4⟩,gP ⟨d1,d2,d3,d4⟩,<-hQ];rw[<-v1]at i1 ⊢;rw[<-v2]at i2 ⊢;exact gP ⟨k1,k2,hp,i1,i2⟩
def aJ:dK:=orc3 yJ yJ (pN .i64) sp
theorem fnok:tB prog E 114 f114 aE:=aFO rI mixed (lY _ rfl (aA yB.ok (aA eI.ok (aA Tg.ok (aA Ti.ok (aA Ah.ok aD))))) (nT)) func114 rfl rfl rfl
theorem ok:kY prog base.glob 114 aJ:=fnok.yK rfl spec
end SMul
end W
namespace M
open Go AI W
theorem Rl{a b x:Rat}{y:Rat}(h1:a<=x)(h2:x<=b):(a*y<=x*y\/b*y<=x*y)/\(x*y<=a*y\/x*y<=b*y):=by
 by_cases h:0<=y
 ·have m1:=R.aF (show 0<=x-a by grind) h;have m2:=R.aF (show 0<=b-x by grind) h;exact⟨.inl (by grind),.inr (by grind)⟩
 ·have m1:=R.aF (show 0<=x-a by grind) (show 0<=-y by grind);have m2:=R.aF (show 0<=b-x by grind) (show 0<=-y by grind);exact⟨.inr (by grind),.inl (by grind)⟩
theorem aVD{a b:(Int×Int)×(Int×Int)}{x y:Rat}(h1:R.qz a.1<=x)(h2:x<=R.qz a.2)(h3:R.qz b.1<=y)(h4:y<=R.qz b.2):R.qz (SMul.zJ a b)<=x*y/\x*y<=R.qz (SMul.zK a b):=by
 obtain⟨l1,l2⟩:=Zb (eI.gH a.1 b.1) (eI.gH a.1 b.2);obtain⟨l3,l4⟩:=Zb (Kt (eI.gH a.1 b.1) (eI.gH a.1 b.2)) (eI.gH a.2 b.1);obtain⟨l5,l6⟩:=Zb (Kt (Kt (eI.gH a.1 b.1) (eI.gH a.1 b.2)) (eI.gH a.2 b.1)) (eI.gH a.2 b.2);obtain⟨g1,g2⟩:=Zq (eI.gH a.1 b.1) (eI.gH a.1 b.2);obtain⟨g3,g4⟩:=Zq (Lq (eI.gH a.1 b.1) (eI.gH a.1 b.2)) (eI.gH a.2 b.1);obtain⟨g5,g6⟩:=Zq (Lq (Lq (eI.gH a.1 b.1) (eI.gH a.1 b.2)) (eI.gH a.2 b.1)) (eI.gH a.2 b.2);change R.qz (SMul.zJ a b)<=_ at l5 l6;change _<=R.qz (SMul.zK a b)at g5 g6;rw[Dq]at l1 l2 l4 l6 g1 g2 g4 g6;generalize R.qz (SMul.zJ a b)=L at *;generalize R.qz (SMul.zK a b)=H at *;generalize R.qz (Kt (Kt (eI.gH a.1 b.1) (eI.gH a.1 b.2)) (eI.gH a.2 b.1))=L2 at *;generalize R.qz (Kt (eI.gH a.1 b.1) (eI.gH a.1 b.2))=L1 at *;generalize R.qz (Lq (Lq (eI.gH a.1 b.1) (eI.gH a.1 b.2)) (eI.gH a.2 b.1))=G2 at *;generalize R.qz (Lq (eI.gH a.1 b.1) (eI.gH a.1 b.2))=G1 at *;generalize R.qz a.1=a1 at *;generalize R.qz a.2=a2 at *;generalize R.qz b.1=b1 at *;generalize R.qz b.2=b2 at *;obtain⟨m1,m2⟩:=Rl (y:=y) h1 h2;obtain⟨p1,p2⟩:=Rl (y:=a1) h3 h4;obtain⟨q1,q2⟩:=Rl (y:=a2) h3 h4;constructor
 ·rcases m1 with m |m
  ·rcases p1 with p |p <;> grind
  ·rcases q1 with q |q <;> grind
 ·rcases m2 with m |m
  ·rcases p2 with p |p <;> grind
  ·rcases q2 with q |q <;> grind
end M
namespace W
open Go AI M
namespace Tn
def E:=mE [(50,iY.aJ)] 31 [] [] []
def aE:=bd f199
theorem aX:Nk E aE:=nk
theorem start a b c:aH E f199 aE [D.s (ints u64 a),D.s (ints u64 b),D.s (sc (int i64 c))]=letI C:=i64.wrap ((0:Int)-c);letI B:=bif gY (wv (false,b)) C then aN (wv (false,b)) C else((0:Int),(0:Int));letI A:=bif gY (wv (false,a)) C then aN (wv (false,a)) C else((0:Int),(0:Int));aO (gL (false,a)/\(-9223372036854775808:Int)<=i64.wrap ((0:Int)-c)/\i64.wrap ((0:Int)-c)<9223372036854775808) (aC (isNeg A.fst) fun d=>aC (M6.dg A.fst.natAbs) fun e=>aC A.snd fun f=>aO (gL (false,b)/\(-9223372036854775808:Int)<=i64.wrap ((0:Int)-c)/\i64.wrap ((0:Int)-c)<9223372036854775808) (aC (isNeg B.fst) fun g=>aC (M6.dg B.fst.natAbs) fun h=>aC B.snd fun i=>some [D.agg [sc (bool d),ints u64 e,sc (int i64 f),sc (bool g),ints u64 h,sc (int i64 i)],D.s (sc (int i64 0))])):=eJ aX
def sp(a b:List Int)(w:Int):Prop×List D:=(gL (false,a)/\gL (false,b)/\(-100000<=w/\w<=100000)/\gY (wv (false,a)) (-w)=true/\gY (wv (false,b)) (-w)=true,[uX (aN (wv (false,a)) (-w)) (aN (wv (false,b)) (-w)),.s (.sc (.int .i64 0))])
theorem spec:oK E f199 aE (pI .u64) (pI .u64) (pN .i64) sp:=by
 rintro a b w ⟨ha,hb,hw,i1,i2⟩;have e:i64.wrap (0-w)=-w:=by rw[wrap_i64];omega
 refine(start a b w).trans ?_;rw[e,i1,i2,gP ⟨ha,by omega,by omega⟩];simp only[aG,cond_true];rw[gP ⟨hb,by omega,by omega⟩];rfl
def aJ:dK:=orc3 (pI .u64) (pI .u64) (pN .i64) sp
theorem ok:OK 199 aJ:=(eZ E aE (aA iY.ok aD) func199).yK rfl spec
end Tn
namespace aNU
def E:=mE [(100,uF.aJ),(95,oA.aJ),(199,Tn.aJ)] 26 [23] [] []
def aE:=bd f153
theorem aX:Nk E aE:=nk
theorem start a b c:aH E f153 aE [D.s (ints u64 a),D.s (sc (int i64 b)),D.s (sc (int i64 c))]=letI F:=int i64 0;letI C:=M6.val a+M6.val (M6.dg 1);letI A:=aN (wv (false,a)) (-c);aB (b !=0) (some [D.agg [sc (bool false),sc (slice none 0 0),sc F,sc (bool false),sc (slice none 0 0),sc F],D.s (sc (int i64 b))]) (aO ((0:Int)<=(1:Int)/\(1:Int)<(18446744073709551616:Int)) (aO (M6.cR a/\M6.cR (M6.dg 1)/\a.length<=8192/\(M6.dg 1).length<=8192) (aC (bif cP.mM C then M6.dg C else []) fun d=>letI B:=aN (wv (false,d)) (-c);aO (gL (false,a)/\gL (false,d)/\((-100000:Int)<=c/\c<=100000)/\gY (wv (false,a)) (-c)=true/\gY (wv (false,d)) (-c)=true) (aC (isNeg A.fst) fun e=>aC (M6.dg A.fst.natAbs) fun f=>aC A.snd fun g=>aC (isNeg B.fst) fun h=>aC (M6.dg B.fst.natAbs) fun i=>aC B.snd fun j=>some [D.agg [sc (bool e),ints u64 f,sc (int i64 g),sc (bool h),ints u64 i,sc (int i64 j)],D.s (sc F)])))):=eJ aX
def sp(a:List Int)(e p:Int):Prop×List D:=(e=0/\M6.cR a/\bl (M6.val a)<=100000/\1<=p/\p<=70000,[uX (aN (M6.val a:Int) (-p)) (aN ((M6.val a:Int)+1) (-p)),.s (.sc (.int .i64 0))])
theorem spec:oK E f153 aE (pI .u64) (pN .i64) (pN .i64) sp:=by
 rintro a e p ⟨rfl,ha,hb,p0,p1⟩;have hv:M6.val a<2^100000:=cZ.1 hb;have aHA:M6.val a+1<2^100001:=by rw[cAN];omega
 have ok:=dW.aSX aHA (by omega);have la:a.length<=8192:=by
  have:=dW.lF hv (by omega);rwa [M6.Iz ha]at this
 have l1:(M6.dg 1).length<=8192:=dW.lF (k:=1) (by decide) (by omega);have e1:wv (false,a)=(M6.val a:Int):=rfl;have e2:wv (false,M6.dg (M6.val a+1))=(M6.val a:Int)+1:=by
  show((M6.val (M6.dg (M6.val a+1)):Nat):Int)=_;rw[M6.bQ];omega
 have b1:bl (M6.val a+1)<=100001:=cZ.2 aHA;have i1:gY (M6.val a:Int) (-p)=true:=gQ (by omega) (by rw[cBF];omega);have i2:gY ((M6.val a:Int)+1) (-p)=true:=gQ (by omega) (by rw[show((M6.val a:Int)+1).natAbs=M6.val a+1 by omega];omega);refine(start a 0 p).trans ?_;rw[gG rfl,gP ⟨by decide,by decide⟩,gP ⟨ha,M6.aY _,la,l1⟩,M6.bQ,ok,cond_true,aG];refine(gP ⟨⟨ha,fun h=>(by cases h),la⟩,⟨M6.aY _,fun h=>(by cases h),dW.lF aHA (by omega)⟩,by omega,by rw[e1];exact i1,by rw[e2];exact i2⟩).trans ?_;rw[e1,e2];rfl
def aJ:dK:=orc3 (pI .u64) (pN .i64) (pN .i64) sp
theorem ok:OK 153 aJ:=(eZ E aE (aA uF.ok (aA oA.ok (aA Tn.ok aD))) func153).yK rfl spec
end aNU
namespace tA
def E:=mE [(152,sA.aJ),(153,aNU.aJ)] 17 [14] [] []
def aE:=bd f112
theorem aX:Nk E aE:=nk
theorem start a:aH E f112 aE [D.s (sc (int i64 a))]=letI C:=M6.dg (R.pF a.toNat);letI A:=(↑(M6.val C):Int);letI F:=aN A (-a);letI B:=aN (A+(1:Int)) (-a);aO (1<=a/\a<=70000) (aO ((0:Int)=(0:Int)/\M6.cR C/\bl (M6.val C)<=100000/\1<=a/\a<=70000) (aC (isNeg F.fst) fun b=>aC (M6.dg F.fst.natAbs) fun c=>aC F.snd fun d=>aC (isNeg B.fst) fun e=>aC (M6.dg B.fst.natAbs) fun f=>aC B.snd fun g=>some [D.agg [sc (bool b),ints u64 c,sc (int i64 d),sc (bool e),ints u64 f,sc (int i64 g)],D.s (sc (int i64 0))])):=eJ aX
def tR(p:Int):(Int×Int)×(Int×Int):=(aN (R.pF p.toNat:Int) (-p),aN ((R.pF p.toNat:Int)+1) (-p))
def sp(p:Int):Prop×List D:=(1<=p/\p<=70000,[uX (tR p).1 (tR p).2,.s (.sc (.int .i64 0))])
theorem aSW{p:Int}(h:1<=p/\p<=70000):bl (R.pF p.toNat)<=100000:=by
 obtain⟨q,rfl⟩:=cAS (show 0<=p by omega);rw[bZL];have h1:=(R.zH (q:=q) (by omega)).1;obtain⟨_,p2⟩:=R.gX;have P:(0:Rat)<((2^q:Nat):Rat):=by exact_mod_cast bYO (n:=q) (show 0<2 by decide)
 have m:=R.aF (cFS P) (show 0<=4-R.pi by grind);have h2:(R.pF q:Rat)<=((2^(q+2):Nat):Rat):=by
  have:((2^(q+2):Nat):Rat)=((2^q:Nat):Rat)*4:=by rw[cAQ];push_cast;norm_cast
  grind
 have h3:R.pF q<=2^(q+2):=by exact_mod_cast h2
 have h4:R.pF q<2^(q+3):=by
  have:2^(q+3)=2*2^(q+2):=by rw[cAN];omega
  have:=bYO (n:=q+2) (show 0<2 by decide);omega
 have:=cZ.2 h4;omega
theorem spec:jE E f112 aE (pN .i64) sp:=by
 intro p h;refine(start p).trans ((gP h).trans ?_);have b:=aSW h;refine(gP ⟨rfl,M6.aY _,by rw[M6.bQ];exact b,h.1,h.2⟩).trans ?_;rw[M6.bQ];rfl
def aJ:dK:=orc1 (pN .i64) sp
theorem ok:OK 112 aJ:=(eZ E aE (aA sA.ok (aA aNU.ok aD)) func112).pU rfl spec
end tA
namespace iC
def E:=mE [(112,tA.aJ),(113,Cz.aJ),(114,SMul.aJ),(115,mJ.aJ),(116,cD.aJ)] 48 [] [] []
def aE:=bd f64
theorem aX:Nk E aE:=nk
theorem start a c d b:aH E f64 aE [D.agg [sc (bool a),ints u64 c,sc (int i64 d)],D.s (sc (int i64 b))]=letI P:=tA.tR b;letI F:=i64.wrap (b+8);letI A:=SMul.eS ((a,c,d).fst,(a,c,d).snd.fst,(a,c,d).snd.snd,(a,c,d).fst,(a,c,d).snd.fst,(a,c,d).snd.snd);aO (1<=b/\b<=70000) (aC (isNeg P.fst.fst) fun e=>aC (M6.dg P.fst.fst.natAbs) fun f=>aC P.fst.snd fun g=>aC (isNeg P.snd.fst) fun h=>aC (M6.dg P.snd.fst.natAbs) fun i=>aC P.snd.snd fun j=>letI Q:=(e,f,g,h,i,j);letI B:=SMul.eS Q;letI O:=M.shD true (SMul.zK A B) F;letI I:=M.shD false (SMul.zJ A B) F;aO (aQ (a,c,d)) (aO ((eQ (a,c,d,a,c,d)/\eQ Q)/\(1<=i64.wrap (b+8)/\i64.wrap (b+8)<=70000)/\SMul.aPY (dv (gZ ((a,c,d).fst,(a,c,d).snd.fst,(a,c,d).snd.snd,(a,c,d).fst,(a,c,d).snd.fst,(a,c,d).snd.snd)),dv (hI ((a,c,d).fst,(a,c,d).snd.fst,(a,c,d).snd.snd,(a,c,d).fst,(a,c,d).snd.fst,(a,c,d).snd.snd))) (dv (gZ Q),dv (hI Q))/\wZ false (SMul.zJ A B) F=true/\wZ true (SMul.zK A B) F=true) (aC (isNeg I.fst) fun k=>aC (M6.dg I.fst.natAbs) fun l=>aC I.snd fun m=>aC (isNeg O.fst) fun n=>aC (M6.dg O.fst.natAbs) fun o=>aC O.snd fun p=>letI C:=(k,l,m,n,o,p);letI N:=fG.Ka (dv (hI C)) (b+2);letI K:=fG.Jz (dv (gZ C)) (b+2);letI H:=bC.rT (dv (cD.zY C)) (b+2);letI G:=bC.qN (dv (cD.tH C)) (b+2);aO (mJ.Uj C b) (aC (isNeg K.fst) fun q=>aC (M6.dg K.fst.natAbs) fun r=>aC K.snd fun s=>aC (isNeg N.fst) fun t=>aC (M6.dg N.fst.natAbs) fun u=>aC N.snd fun v=>aO (cD.aAC C b) (aC (isNeg H.fst) fun w=>aC (M6.dg H.fst.natAbs) fun x=>aC H.snd fun y=>aC (isNeg G.fst) fun z=>aC (M6.dg G.fst.natAbs) fun aa=>aC G.snd fun ab=>some [D.agg [sc (bool q),ints u64 r,sc (int i64 s),sc (bool t),ints u64 u,sc (int i64 v)],D.agg [sc (bool w),ints u64 x,sc (int i64 y),sc (bool z),ints u64 aa,sc (int i64 ab)]]))))):=eJ aX
def Cx(r:Int×Int)(q:Int):(Int×Int)×(Int×Int):=(shD false (SMul.zJ (r,r) (tA.tR q)) (q+8),shD true (SMul.zK (r,r) (tA.tR q)) (q+8))
def bEC(r:Int×Int)(q:Int):wV:=mN (Cx r q).1 (Cx r q).2
def aRU(r:Int×Int)(q:Int):Prop:=eQ (mN (tA.tR q).1 (tA.tR q).2)/\SMul.aPY (r,r) (tA.tR q)/\wZ false (SMul.zJ (r,r) (tA.tR q)) (q+8)=true/\wZ true (SMul.zK (r,r) (tA.tR q)) (q+8)=true/\mJ.Uj (bEC r q) q/\cD.aAC (bEC r q) q
def sp(x:gE)(q:Int):Prop×List D:=(aQ x/\(1<=q/\q<=66500)/\aRU (dv x) q,[uX (gS (Cx (dv x) q).1 (Cx (dv x) q).2 (q+2)).1 (gS (Cx (dv x) q).1 (Cx (dv x) q).2 (q+2)).2,uX (gC (Cx (dv x) q).1 (Cx (dv x) q).2 (q+2)).1 (gC (Cx (dv x) q).1 (Cx (dv x) q).2 (q+2)).2])
theorem fold(a b:Int×Int):(isNeg a.1,M6.dg a.1.natAbs,a.2,isNeg b.1,M6.dg b.1.natAbs,b.2)=mN a b:=rfl
theorem spec:gT E f64 aE iX (pN .i64) sp:=by
 rintro x q ⟨hx,hq,h1,h2,h3,h4,h5,h6⟩;obtain⟨a,b,c⟩:=x;have w:i64.wrap (q+8)=q+8:=wrap_i64;have eP:SMul.eS (mN (tA.tR q).1 (tA.tR q).2)=tA.tR q:=by
  show(dv (gZ (mN _ _)),dv (hI (mN _ _)))=_;rw[oN,oO]
 have sx:eQ (a,b,c,a,b,c):=⟨hx,hx,Py _⟩;refine(start a b c q).trans ((gP ⟨hq.1,by omega⟩).trans ?_);rw[aG,aG,aG,aG,aG,aG,fold,w,eP];refine(gP hx).trans ((gP ⟨⟨sx,h1⟩,⟨by omega,by omega⟩,by rw[oN,oO];exact h2,h3,h4⟩).trans ?_);rw[aG,aG,aG,aG,aG,aG,fold];have e1:dv (gZ (bEC (dv (a,b,c)) q))=(Cx (dv (a,b,c)) q).1:=oN _ _;have e2:dv (hI (bEC (dv (a,b,c)) q))=(Cx (dv (a,b,c)) q).2:=oO _ _;have f:mN (M.shD false (SMul.zJ (SMul.eS (a,b,c,a,b,c)) (tA.tR q)) (q+8)) (M.shD true (SMul.zK (SMul.eS (a,b,c,a,b,c)) (tA.tR q)) (q+8))=bEC (dv (a,b,c)) q:=rfl;change aO (mJ.Uj (mN (M.shD false (SMul.zJ (SMul.eS (a,b,c,a,b,c)) (tA.tR q)) (q+8)) (M.shD true (SMul.zK (SMul.eS (a,b,c,a,b,c)) (tA.tR q)) (q+8))) q) _=_;rw[f,gP h5,aG,aG,aG,aG,aG,aG,gP h6,e1,e2];rfl
def aJ:dK:=orc2 iX (pN .i64) sp
theorem ok:OK 64 aJ:=(eZ E aE (aA tA.ok (aA Cz.ok (aA SMul.ok (aA mJ.ok (aA cD.ok aD))))) func64).mT rfl spec
end iC
end W
namespace M
open Go AI W
structure bED(r:Int×Int):Prop where
 vD:jK r
 b:bl r.1.natAbs<=1100
 e:-1100<=r.2/\r.2<=0
 q:R.ab (R.qz r)<=1/4
 g:R.pz (-1075)<=R.ab (R.qz r)
theorem aPN{q:Int}(hq:1<=q/\q<=66500):(jK (tA.tR q).1/\jK (tA.tR q).2)/\(bl (tA.tR q).1.1.natAbs<=100001/\bl (tA.tR q).2.1.natAbs<=100001)/\(-70000<=(tA.tR q).1.2/\(tA.tR q).1.2<=200000)/\(-70000<=(tA.tR q).2.2/\(tA.tR q).2.2<=200000)/\R.qz (tA.tR q).1<=R.pi/\R.pi<=R.qz (tA.tR q).2/\R.qz (tA.tR q).2-R.qz (tA.tR q).1=R.pz (-q):=by
 have hb:=tA.aSW (p:=q) ⟨hq.1,by omega⟩;have aDG:bl ((R.pF q.toNat:Int)+1).natAbs<=100001:=by
  have h1:=cZ.1 hb;refine cZ.2 ?_;rw[show((R.pF q.toNat:Int)+1).natAbs=R.pF q.toNat+1 by omega,cAN];omega
 have tY:bl ((R.pF q.toNat:Int)).natAbs<=100001:=by rw[cBF];omega
 have i1:gY (R.pF q.toNat:Int) (-q)=true:=gQ (by omega) (by omega);have i2:gY ((R.pF q.toNat:Int)+1) (-q)=true:=gQ (by omega) (by omega);have ex:∀z:Int,bl z.natAbs<=100001->-70000<=(aN z (-q)).2/\(aN z (-q)).2<=200000:=by
  intro z hz
  by_cases h0:z=0
  ·rw[h0,fC];decide
  ·have h1:=qT (e:=-q) h0;have h2:=(lE (e:=-q) h0).2;have h3:=Jo (n:=z.natAbs) (by omega);have h4:tz z.natAbs<=100001:=by
    rcases Nat.lt_or_ge 100001 (tz z.natAbs)with h |h
    ·have:=cZ.1 hz;have h5:2^100001<=2^tz z.natAbs:=gO;omega
    ·exact h
   omega
 have fl:=R.zH (q:=q.toNat) (by omega);have P:=R.Yu q;have e:R.pz q=((2^q.toNat:Nat):Rat):=by
  have:=R.lT q.toNat;rwa [show((q.toNat:Nat):Int)=q by omega]at this
 rw[<-e]at fl;have z0:=R.dJ (-q);have m1:=R.aF (cFS z0) (show 0<=R.pz q*R.pi-(R.pF q.toNat:Rat) by grind);have m2:=R.aF (cFS z0) (show 0<=(R.pF q.toNat:Rat)+1-R.pz q*R.pi by grind);have k:R.pz (-q)*(R.pz q*R.pi)=R.pi:=by rw[<-cGT,Rat.mul_comm (R.pz (-q)),P];grind
 have q1:R.qz (tA.tR q).1=(R.pF q.toNat:Rat)*R.pz (-q):=by
  show R.qz (aN _ _)=_;rw[oI,cGV]
 have q2:R.qz (tA.tR q).2=((R.pF q.toNat:Rat)+1)*R.pz (-q):=by
  show R.qz (aN _ _)=_;rw[oI,cIN,cGV,show((1:Int):Rat)=1 by norm_cast]
 rw[q1,q2];exact⟨⟨gM i1 (by omega),gM i2 (by omega)⟩,⟨bWK (vE _ _) tY,bWK (vE _ _) aDG⟩,ex _ tY,ex _ aDG,by grind,by grind,by grind⟩
theorem aJX{a b:Int×Int}{m n:Nat}(ha:bl a.1.natAbs<=m)(hb:bl b.1.natAbs<=n)(h:m+n<=524288)(e1:-1048576<=a.2+b.2)(e2:a.2+b.2<=500000):eI.lM a b=true/\jK (eI.gH a b):=by
 have b0:=bWK (Qc a.1.natAbs b.1.natAbs) (Nat.add_le_add ha hb);rw[<-Int.natAbs_mul]at b0;have i:gY (a.1*b.1) (a.2+b.2)=true:=gQ (by omega) (by omega);refine⟨?_,gM i (by omega)⟩;unfold eI.lM fit;rw[i,decide_eq_true (by omega)];rfl
theorem aXT{r:Int×Int}{p:Int}(h:bED r)(hp:1<=p/\p<=66000):iC.aRU r (p+16)/\bLJ (iC.Cx r (p+16)).1 (iC.Cx r (p+16)).2 (p-6) (p+18) (R.qz r*R.pi):=by
 obtain⟨aFC,hb,he,hq,hg⟩:=h;obtain⟨⟨u1,u2⟩,⟨b1,b2⟩,x1,x2,l1,l2,w⟩:=aPN (q:=p+16) (by omega);obtain⟨o1,n1⟩:=aJX hb b1 (by omega) (by omega) (by omega);obtain⟨o2,n2⟩:=aJX hb b2 (by omega) (by omega) (by omega);have sP:eQ (mN (tA.tR (p+16)).1 (tA.tR (p+16)).2):=xF u1 u2 (kX.2 (by grind));have mo:SMul.aPY (r,r) (tA.tR (p+16)):=⟨o1,o2,o1,o2⟩;obtain⟨g1,g2⟩:=aVD (a:=(r,r)) (b:=tA.tR (p+16)) (x:=R.qz r) (y:=R.pi) cGB cGB l1 l2;have pL:jK (SMul.zJ (r,r) (tA.tR (p+16)))/\(R.qz (SMul.zJ (r,r) (tA.tR (p+16)))=R.qz r*R.qz (tA.tR (p+16)).1\/R.qz (SMul.zJ (r,r) (tA.tR (p+16)))=R.qz r*R.qz (tA.tR (p+16)).2):=by
  unfold SMul.zJ;rw[<-Dq,<-Dq];have ls:∀{s t:Int×Int} {A B:Rat},(jK s/\(R.qz s=A\/R.qz s=B))->(jK t/\(R.qz t=A\/R.qz t=B))->jK (Kt s t)/\(R.qz (Kt s t)=A\/R.qz (Kt s t)=B):=by
   intro s t A B hs ht;rcases aVE s t with h |h <;> rw[h] <;> assumption
  exact ls (ls (ls ⟨n1,.inl rfl⟩ ⟨n2,.inr rfl⟩) ⟨n1,.inl rfl⟩) ⟨n2,.inr rfl⟩
 have pH:jK (SMul.zK (r,r) (tA.tR (p+16)))/\(R.qz (SMul.zK (r,r) (tA.tR (p+16)))=R.qz r*R.qz (tA.tR (p+16)).1\/R.qz (SMul.zK (r,r) (tA.tR (p+16)))=R.qz r*R.qz (tA.tR (p+16)).2):=by
  unfold SMul.zK;rw[<-Dq,<-Dq];have ls:∀{s t:Int×Int} {A B:Rat},(jK s/\(R.qz s=A\/R.qz s=B))->(jK t/\(R.qz t=A\/R.qz t=B))->jK (Lq s t)/\(R.qz (Lq s t)=A\/R.qz (Lq s t)=B):=by
   intro s t A B hs ht;rcases aWV s t with h |h <;> rw[h] <;> assumption
  exact ls (ls (ls ⟨n1,.inl rfl⟩ ⟨n2,.inr rfl⟩) ⟨n1,.inl rfl⟩) ⟨n2,.inr rfl⟩
 have z0:=R.dJ (-(p+16));have zs:R.pz (-(p+16))<=1/131072:=by
  have:=aUS (p:=p-7) (by omega);rwa [show -(p-7)-23=-(p+16) by omega]at this
 obtain⟨bPV,bPU⟩:=R.gX;generalize hL:SMul.zJ (r,r) (tA.tR (p+16))=L at *;generalize hH:SMul.zK (r,r) (tA.tR (p+16))=H at *;generalize aLK:R.qz (tA.tR (p+16)).1=P1 at *;generalize bOA:R.qz (tA.tR (p+16)).2=P2 at *;generalize hz:R.pz (-(p+16))=z at *;have aKK:R.pz (-(p+16)-1)=z/2:=by
  have:=R.qA (-(p+16));rw[hz]at this;grind
 have a0:=R.aM (R.qz r);have bLG:∀(x y:Rat),0<=y->R.ab (x*y)=R.ab x*y:=fun x y hy=>by rw[R.fI,R.bG hy]
 have p1:0<=P1:=by grind
 have p2:0<=P2:=by grind
 have bOO:∀x:Rat,x=R.qz r*P1\/x=R.qz r*P2->R.ab x<=R.ab (R.qz r)*(16/5)/\R.ab x<=1:=by
  intro x hx;have m1:=R.aF a0 (show 0<=16/5-P1 by grind);have m2:=R.aF a0 (show 0<=16/5-P2 by grind);rcases hx with h |h
  ·rw[h,bLG _ _ p1];grind
  ·rw[h,bLG _ _ p2];grind
 obtain⟨bL,cL⟩:=bOO _ pL.2;obtain⟨bH,cH⟩:=bOO _ pH.2;have wd:R.qz H-R.qz L<=R.ab (R.qz r)*z:=by
  have t1:=R.By (R.qz r);have t2:=R.nJ (R.qz r);have m1:=R.aF (show 0<=R.ab (R.qz r)-R.qz r by grind) (cFS z0);have m2:=R.aF (show 0<=R.ab (R.qz r)+R.qz r by grind) (cFS z0);have m3:=R.aF a0 (cFS z0);have e:R.qz r*P2=R.qz r*P1+R.qz r*z:=by
   rw[show P2=P1+z by grind];grind
  rcases pL.2 with h |h <;> rcases pH.2 with h' |h' <;> rw[h,h'] <;> grind
 have bFZ:(1:Rat)<=R.pz 1100:=by rw[<-R.fV];exact R.cG (by decide)
 obtain⟨i1,i2,bx⟩:=aCK (s:=(L,H)) (V:=R.qz r*R.pi) (m:=0) (n:=p+16+8) pL.1 pH.1 cGB (by dsimp only;grind) (by dsimp only;grind) wd (by omega) (by dsimp only;grind) (by dsimp only;grind);have eA:iC.Cx r (p+16)=(shD false L (p+16+8),shD true H (p+16+8)):=by
  unfold iC.Cx;rw[hL,hH]
 have e7:R.pz (1-(p+16+8))*128=z:=by
  have:=R.fS (-(p+16)) (n:=7) (c:=128) (by norm_cast);rw[<-hz,<-this,show 1-(p+16+8)=-(p+16)-((7:Nat):Int) by omega]
 have aXS:R.ab (R.qz r*R.pi)=R.ab (R.qz r)*R.pi:=bLG _ _ (by grind);have bPB:R.pz (-1074)=2*R.pz (-1075):=by
  have:=R.qA (-1074);rw[show(-1074:Int)-1=-1075 by rfl]at this;grind
 have tr:=aIC (l:=(iC.Cx r (p+16)).1) (h:=(iC.Cx r (p+16)).2) (p:=p-6) (n:=p+18) (r:=R.qz r*R.pi) (by omega) (by omega) (by rw[eA];exact bx.pl) (by rw[eA];exact bx.ph) (by rw[eA];have:=bx.lo;dsimp only at this ⊢;grind) (by rw[eA];have:=bx.hi;dsimp only at this ⊢;grind)
  (by
   rw[eA,aXS,show -(p-6)-23=-(p+16)-1 by omega,aKK];have w2:=bx.wd;dsimp only at w2 ⊢;have m1:=R.aF (cFS z0) a0;have m2:=R.aF (cFS z0) (show 0<=R.ab (R.qz r)*(16/5)-R.ab (R.qz L) by grind);have m3:=R.aF (cFS z0) (show 0<=R.ab (R.qz r)*(16/5)-R.ab (R.qz H) by grind);have m4:=R.aF (R.aF (cFS z0) a0) (show 0<=R.pi-3 by grind);have e8:R.pz (1-(p+16+8))*(R.ab (R.qz L)+R.ab (R.qz H))*128=z*(R.ab (R.qz L)+R.ab (R.qz H)):=by rw[<-e7];grind
   grind)
  (by
   rw[aXS,bPB];have m1:=R.aF a0 (show 0<=R.pi-3 by grind);grind)
  (by
   rw[aXS];have m1:=R.aF a0 (show 0<=314160/100000-R.pi by grind);grind)
 refine⟨⟨sP,mo,by rw[hL];exact i1,by rw[hH];exact i2,?_,?_⟩,tr⟩
 ·have:=tr.so;rw[show p+18-2=p+16 by omega]at this;exact this
 ·have:=tr.co;rw[show p+18-2=p+16 by omega]at this;exact this
end M
namespace W
open Go AI M
namespace lC
def E:=mE [(20,jY.aJ),(119,iS.aJ)] 41 [] [(2,[0,4,7,8,10,15,16])] []
def aE:=bd f66
theorem aX:Nk E aE:=nk
def L2 a b c d e f g h i j k l m n o p q r s t:=qV E f66 aE 2 [bP a,bP b,dM 2 44 [cU c,fU d,cV e,cU f,fU g,cV h],dM 3 44 [cU i,fU j,cV k,cU l,fU m,cV n],dM 4 44 [cU o,sc (slice none 0 0),cV p,cU q,sc (slice none 0 0),cV r],bP s,bP t]
theorem start a b c d f g h i j k l m n o e:aH E f66 aE [D.s (sc (int i64 a)),D.s (sc (int i64 b)),D.agg [sc (bool c),ints u64 d,sc (int i64 f),sc (bool g),ints u64 h,sc (int i64 i)],D.agg [sc (bool j),ints u64 k,sc (int i64 l),sc (bool m),ints u64 n,sc (int i64 o)],D.s (sc (int i64 e))]=lC.L2 a e c d f g h i j k l m n o false 0 false 0 b 0:=eJ aX
theorem lN a b c d e f g h i j k l m n o p q r s t:L2 a b c d e f g h i j k l m n o p q r s t=letI F:=(i,j,k,l,m,n);letI O:=dv (hI F);letI N:=dv (gZ F);letI C:=(c,d,e,f,g,h);letI H:=dv (hI C);letI G:=dv (gZ C);letI B:=iS.Kj b G H N O;letI K:=aN B.fst B.snd;letI A:=iS.Ki b G H N O;letI I:=aN A.fst A.snd;aB (decide (t<s)) (aO (eQ C) (aC (isNeg (-H.fst)) fun u=>aC (M6.dg (-H.fst).natAbs) fun v=>aC H.snd fun w=>aC (isNeg (-G.fst)) fun x=>aC (M6.dg (-G.fst).natAbs) fun y=>aC G.snd fun z=>lC.L2 a b i j k l m n u v w x y z o p q r s (i64.wrap (t+1)))) (aB (a==4) (some [D.agg [sc (bool c),ints u64 d,sc (int i64 e),sc (bool f),ints u64 g,sc (int i64 h)]]) (aB (a==5) (some [D.agg [sc (bool i),ints u64 j,sc (int i64 k),sc (bool l),ints u64 m,sc (int i64 n)]]) (aO (eQ C/\eQ F/\(1<=b/\b<=70000)/\fK.sJ N O≠0/\(bl G.fst.natAbs<=262144/\bl H.fst.natAbs<=262144/\bl N.fst.natAbs<=262144/\bl O.fst.natAbs<=262144)/\gY A.fst A.snd=true/\gY B.fst B.snd=true) (aC (isNeg I.fst) fun aa=>aC (M6.dg I.fst.natAbs) fun ab=>aC I.snd fun ac=>aC (isNeg K.fst) fun ad=>aC (M6.dg K.fst.natAbs) fun ae=>aC K.snd fun af=>some [D.agg [sc (bool aa),ints u64 ab,sc (int i64 ac),sc (bool ad),ints u64 ae,sc (int i64 af)]])))):=lJ aX
def aSJ (fn : Int) (n : Nat) (s c : (Int × Int) × (Int × Int)) (q : Int) : (Int × Int) × (Int × Int) :=
  bif fn == 4 then (VTurned.trn s c n).1 else bif fn == 5 then (VTurned.trn s c n).2 else
    (aN (iS.Ki q (VTurned.trn s c n).1.1 (VTurned.trn s c n).1.2 (VTurned.trn s c n).2.1 (VTurned.trn s c n).2.2).1 (iS.Ki q (VTurned.trn s c n).1.1 (VTurned.trn s c n).1.2 (VTurned.trn s c n).2.1 (VTurned.trn s c n).2.2).2,
     aN (iS.Kj q (VTurned.trn s c n).1.1 (VTurned.trn s c n).1.2 (VTurned.trn s c n).2.1 (VTurned.trn s c n).2.2).1 (iS.Kj q (VTurned.trn s c n).1.1 (VTurned.trn s c n).1.2 (VTurned.trn s c n).2.1 (VTurned.trn s c n).2.2).2)
def aPJ(q:Int)(s c:(Int×Int)×(Int×Int)):Prop:=fK.sJ c.1 c.2≠0/\(bl s.1.1.natAbs<=262144/\bl s.2.1.natAbs<=262144/\bl c.1.1.natAbs<=262144/\bl c.2.1.natAbs<=262144)/\gY (iS.Ki q s.1 s.2 c.1 c.2).1 (iS.Ki q s.1 s.2 c.1 c.2).2=true/\gY (iS.Kj q s.1 s.2 c.1 c.2).1 (iS.Kj q s.1 s.2 c.1 c.2).2=true
abbrev eS(s:wV):(Int×Int)×(Int×Int):=(dv (gZ s),dv (hI s))
def sp(fn k:Int)(s c:wV)(q:Int):Prop×List D:=((eQ s/\eQ c)/\(0<=k/\k<=3)/\(1<=q/\q<=70000)/\(fn≠4->fn≠5->aPJ q (VTurned.trn (eS s) (eS c) k.toNat).1 (VTurned.trn (eS s) (eS c) k.toNat).2),[uX (aSJ fn k.toNat (eS s) (eS c) q).1 (aSJ fn k.toNat (eS s) (eS c) q).2])
theorem L(fn q:Int)(hq:1<=q/\q<=70000):∀(d k:Nat) (s c:wV),k+d<=1000->eQ s->eQ c->(fn≠4->fn≠5->aPJ q (VTurned.trn (eS s) (eS c) d).1 (VTurned.trn (eS s) (eS c) d).2) ->
  L2 fn q s.1 s.2.1 s.2.2.1 s.2.2.2.1 s.2.2.2.2.1 s.2.2.2.2.2 c.1 c.2.1 c.2.2.1 c.2.2.2.1 c.2.2.2.2.1 c.2.2.2.2.2 false 0 false 0 ((k+d:Nat):Int) (k:Int)=some [uX (aSJ fn d (eS s) (eS c) q).1 (aSJ fn d (eS s) (eS c) q).2]
 |0,k,s,c,h,h1,h2,hk=>by
  rw[lN,aL];unfold aSJ VTurned.trn;unfold VTurned.trn at hk;dsimp only at hk ⊢
  by_cases f4:fn=4
  ·rw[cO f4,f4];show _=some [uX (dv (gZ s)) (dv (hI s))];rw[h1.uX]
  ·rw[bN f4,beq_eq_false_iff_ne.2 f4,cond_false]
   by_cases f5:fn=5
   ·rw[cO f5,f5];show _=some [uX (dv (gZ c)) (dv (hI c))];rw[h2.uX]
   ·rw[bN f5,beq_eq_false_iff_ne.2 f5,cond_false];obtain⟨k0,k1,k2,k3⟩:=hk f4 f5;exact gP ⟨h1,h2,hq,k0,k1,k2,k3⟩
 |d+1,k,s,c,h,h1,h2,hk=>by
  have e:i64.wrap ((k:Int)+1)=((k+1:Nat):Int):=by rw[wrap_i64];omega
  rw[lN,aP,gP h1];simp only[aG,e];have en:eS (mN (jY.wH (dv (hI s))) (jY.wH (dv (gZ s))))=(jY.wH (dv (hI s)),jY.wH (dv (gZ s))):=by
   show(dv (gZ (mN _ _)),dv (hI (mN _ _)))=_;rw[oN,oO]
  have r:=L fn q hq d (k+1) c (mN (jY.wH (dv (hI s))) (jY.wH (dv (gZ s)))) (by omega) h2 (VTurned.aJT h1) (by rw[en];exact hk);rw[en,show k+1+d=k+(d+1) by omega]at r;exact r
theorem spec(fn k:Int)(s c:wV)(q:Int)(h:(sp fn k s c q).1):aH E f66 aE [(pN .i64).put fn,(pN .i64).put k,yJ.put s,yJ.put c,(pN .i64).put q]=some (sp fn k s c q).2:=by
 obtain⟨⟨h1,h2⟩,⟨q0,q1⟩,hq,hk⟩:=h;refine(start fn k s.1 s.2.1 s.2.2.1 s.2.2.2.1 s.2.2.2.2.1 s.2.2.2.2.2 c.1 c.2.1 c.2.2.1 c.2.2.2.1 c.2.2.2.2.1 c.2.2.2.2.2 q).trans ?_;obtain⟨n,rfl⟩:=cAS q0;have:=L fn q hq n 0 s c (by omega) h1 h2 hk;rw[bVQ]at this;exact this
def aJ:dK:=orc5 (pN .i64) (pN .i64) yJ yJ (pN .i64) sp
theorem ok:OK 66 aJ:=(eZ E aE (aA jY.ok (aA iS.ok aD)) func66).bGW rfl spec
end lC
end W
namespace M
open Go AI W
def tv(fn k:Int)(s c:Rat):Rat:=if fn=4 then R.rs k s c else if fn=5 then R.rc k s c else R.rs k s c/R.rc k s c
def tS(r:Int×Int)(p:Int):(Int×Int)×(Int×Int):=gS (iC.Cx r (p+16)).1 (iC.Cx r (p+16)).2 (p+18)
def tC(r:Int×Int)(p:Int):(Int×Int)×(Int×Int):=gC (iC.Cx r (p+16)).1 (iC.Cx r (p+16)).2 (p+18)
def tE(fn k:Int)(r:Int×Int)(p:Int):(Int×Int)×(Int×Int):=lC.aSJ fn (k%4).toNat (tS r p) (tC r p) (p+16)
def tO(fn k:Int)(r:Int×Int)(p:Int):(Int×Int)×(Int×Int):=(shD false (tE fn k r p).1 (p+20),shD true (tE fn k r p).2 (p+20))
structure bVH(fn k:Int)(r:Int×Int)(p:Int):Prop where
 ci:iC.aRU r (p+16)
 sS:eQ (mN (tS r p).1 (tS r p).2)
 sC:eQ (mN (tC r p).1 (tC r p).2)
 qu:lC.aPJ (p+16) (VTurned.trn (tS r p) (tC r p) (k%4).toNat).1 (VTurned.trn (tS r p) (tC r p) (k%4).toNat).2
 re:eQ (mN (tE fn k r p).1 (tE fn k r p).2)
 s1:wZ false (tE fn k r p).1 (p+20)=true
 s2:wZ true (tE fn k r p).2 (p+20)=true
 v0:tv fn k (R.sn (R.qz r*R.pi)) (R.cs (R.qz r*R.pi))≠0
 vl:R.pz (-1075)<=R.ab (tv fn k (R.sn (R.qz r*R.pi)) (R.cs (R.qz r*R.pi)))
 vh:R.ab (tv fn k (R.sn (R.qz r*R.pi)) (R.cs (R.qz r*R.pi)))<=R.pz 1075
 bx:Bx (tO fn k r p) (tv fn k (R.sn (R.qz r*R.pi)) (R.cs (R.qz r*R.pi))) (R.pz (-p-1)*R.ab (tv fn k (R.sn (R.qz r*R.pi)) (R.cs (R.qz r*R.pi)))) (mg (p-6))
 b45:fn=4\/fn=5->Bx (tO fn k r p) (tv fn k (R.sn (R.qz r*R.pi)) (R.cs (R.qz r*R.pi))) (R.pz (-p-5)*R.ab (tv fn k (R.sn (R.qz r*R.pi)) (R.cs (R.qz r*R.pi)))) (mg (p-6))
 bits:(bl (tO fn k r p).1.1.natAbs:Int)<=p+21/\(bl (tO fn k r p).2.1.natAbs:Int)<=p+21
 exps:-p-1200<=(tO fn k r p).1.2/\-p-1200<=(tO fn k r p).2.2
 on:fn=4\/fn=5->On (tO fn k r p)
theorem aEA{s:(Int×Int)×(Int×Int)}{V ρ m:Rat}(h:Bx s V (ρ*R.ab V) m)(r1:ρ<=1/4)(V0:V≠0) :
  3/4*R.ab V<=R.ab (R.qz s.1)/\R.ab (R.qz s.1)<=5/4*R.ab V/\3/4*R.ab V<=R.ab (R.qz s.2)/\R.ab (R.qz s.2)<=5/4*R.ab V/\0<R.ab V:=by
 obtain⟨_,_,_,_,m0,lo,hi,wd⟩:=h;have a0:0<R.ab V:=by
  unfold R.ab;split <;> grind
 have k:=R.aF (cFS a0) (show 0<=1/4-ρ by grind);generalize hρ:ρ*R.ab V=W at *
 by_cases c:0<V
 ·have e:R.ab V=V:=R.bG (cFS c);rw[e]at a0 k hρ;rw[e];rw[R.bG (show 0<=R.qz s.1 by grind),R.bG (show 0<=R.qz s.2 by grind)];exact⟨by grind,by grind,by grind,by grind,c⟩
 ·have e:R.ab V=-V:=by unfold R.ab;rw[if_neg (by grind)]
  rw[e]at a0 k hρ;rw[e];rw[<-R.iJ,R.bG (show 0<=-R.qz s.1 by grind),<-R.iJ,R.bG (show 0<=-R.qz s.2 by grind)];exact⟨by grind,by grind,by grind,by grind,by grind⟩
theorem aIA{fn k:Int}{r:Int×Int}{p:Int}(h:bED r)(hp:1<=p/\p<=66000)(hf:fn=4\/fn=5\/fn=6):bVH fn k r p:=by
 obtain⟨ci,tr⟩:=aXT h hp;obtain⟨_,_,bs,bc,os,oc⟩:=tr;obtain⟨ρ,hρ⟩:∃ρ,ρ=R.qz r*R.pi:=⟨_,rfl⟩;obtain⟨bPV,bPU⟩:=R.gX;have ar:R.ab ρ=R.ab (R.qz r)*R.pi:=by rw[hρ,R.fI,R.bG (show 0<=R.pi by grind)]
 have a0:=R.aM (R.qz r);have rg:3*R.pz (-1075)<=R.ab ρ:=by
  rw[ar];have:=h.g;have:=R.aF a0 (show 0<=R.pi-3 by grind);grind
 have rn:R.ab ρ<=79/100:=by
  rw[ar];have:=h.q;have:=R.aF a0 (show 0<=314160/100000-R.pi by grind);grind
 rw[<-hρ]at bs bc;rw[show gS (iC.Cx r (p+16)).1 (iC.Cx r (p+16)).2 (p+18)=tS r p from rfl]at bs os;rw[show gC (iC.Cx r (p+16)).1 (iC.Cx r (p+16)).2 (p+18)=tC r p from rfl]at bc oc;rw[show -(p-6)-12=-p-6 by omega]at bs bc;have bGQ:=R.dJ (-1075);have bQI:R.pz (-1075)<=1/4:=by
  have:=R.cG (show(-1075:Int)<=-2 by omega);have e:=R.fS 0 (n:=2) (c:=4) (by norm_cast);rw[R.fV,show(0:Int)-((2:Nat):Int)=-2 by rfl]at e;grind
 obtain⟨c1,c2⟩:=R.Wn (r:=ρ) (by grind);have s0:R.pz (-1075)<=R.ab (R.sn ρ)/\R.ab (R.sn ρ)<=1:=by
  rw[<-R.aIX (by grind)];obtain⟨a,b⟩:=R.aBO (R.aM ρ) (by grind);constructor <;> grind
 have s1:R.pz (-1075)<=R.ab (R.cs ρ)/\R.ab (R.cs ρ)<=1:=by
  rw[R.bG (show 0<=R.cs ρ by grind)];constructor <;> grind
 obtain⟨S,hS⟩:∃S,S=R.rs k (R.sn ρ) (R.cs ρ):=⟨_,rfl⟩;obtain⟨C,hC⟩:∃C,C=R.rc k (R.sn ρ) (R.cs ρ):=⟨_,rfl⟩;have sS:R.pz (-1075)<=R.ab S/\R.ab S<=1:=by
  rw[hS,aBX];split <;> assumption
 have sC:R.pz (-1075)<=R.ab C/\R.ab C<=1:=by
  rw[hC,aCA];split <;> assumption
 have Ks:∀v:Rat,R.pz (-1075)<=R.ab v->v≠0:=fun v hv hz=>by rw[hz,R.bG cGB]at hv;grind
 have S0:=Ks _ sS.1;have C0:=Ks _ sC.1;obtain⟨z,hz⟩:∃z,z=R.pz (-p-20):=⟨_,rfl⟩;have z0:=R.dJ (-p-20);rw[<-hz]at z0;have pw:∀(a:Int) (n:Nat) (c:Rat),a=-p-20+(n:Int)->((2^n:Nat):Rat)=c->R.pz a=c*z:=fun a n c ha hc=>by
  rw[ha,R.dY,hc,hz];grind
 have e6:=pw (-p-6) 14 16384 (by omega) (by norm_cast);have e5:=pw (-p-5) 15 32768 (by omega) (by norm_cast);have e1:=pw (-p-1) 19 524288 (by omega) (by norm_cast);have aHM:=pw (2-(p+16)) 6 64 (by omega) (by norm_cast);have bFY:=pw (1-(p+20)) 1 2 (by omega) (by norm_cast);have zs:z<=1/2097152:=by
  have:=R.cG (show -p-20<=-21 by omega);have e:=R.fS 0 (n:=21) (c:=2097152) (by norm_cast);rw[R.fV,show(0:Int)-((21:Nat):Int)=-21 by rfl]at e;grind
 obtain⟨b1,b2⟩:=Bx.trn bs bc (k:=k);rw[<-hS]at b1;rw[<-hC]at b2;have aVB:=On.trn os oc (k%4).toNat;obtain⟨t,ht⟩:∃t,t=VTurned.trn (tS r p) (tC r p) (k%4).toNat:=⟨_,rfl⟩;rw[<-ht]at b1 b2 aVB;have b1:Bx t.1 S (R.pz (-p-6)*R.ab S) (mg (p-6)):=by
  refine wQ b1 ?_;rw[hS,aBX];split <;> exact cGB
 have b2:Bx t.2 C (R.pz (-p-6)*R.ab C) (mg (p-6)):=by
  refine wQ b2 ?_;rw[hC,aCA];split <;> exact cGB
 rw[e6]at b1 b2;have n1:=Gr b1 (by grind) S0;have n2:=Gr b2 (by grind) C0;have bDJ:R.pz (-1300)<=R.pz (-1075)/2:=by
  have:=R.qA (-1075);have:=R.cG (show(-1300:Int)<=-1075-1 by omega);grind
 have z1:Ie t.1.1:=zE b1.bl (tI (by grind)) (by grind) (by grind);have z2:Ie t.1.2:=zE b1.bh (tI (by grind)) (by grind) (by grind);have z3:Ie t.2.1:=zE b2.bl (tI (by grind)) (by grind) (by grind);have z4:Ie t.2.2:=zE b2.bh (tI (by grind)) (by grind) (by grind);have bDD:S/C*C=S:=by grind
 obtain⟨q0,q1,q2,bq⟩:=aJF (p:=p+16) b1 b2 S0 C0 sC.2 (by grind) (by grind) bDD (by omega) z1 z2 z3 z4;rw[aHM]at bq;have aV:R.ab (S/C)*R.ab C=R.ab S:=by rw[<-R.fI,bDD]
 have bQM:R.pz (-1075)*R.pz 1075=1:=by rw[<-R.jJ];exact R.fV
 have bVJ:1<=R.pz 1075:=by rw[<-R.fV];exact R.cG (by omega)
 have tV:R.pz (-1075)<=R.ab (S/C)/\R.ab (S/C)<=R.pz 1075:=by
  have a0:=R.aM (S/C);generalize R.ab (S/C)=a at *;constructor
  ·have:=R.aF a0 (show 0<=1-R.ab C by grind);grind
  ·refine R.bV bGQ ?_;have:=R.aF a0 (show 0<=R.ab C-R.pz (-1075) by grind);grind
 have bLI:=Ks _ tV.1;obtain⟨V,hV⟩:∃V,V=tv fn k (R.sn ρ) (R.cs ρ):=⟨_,rfl⟩;obtain⟨bE,vl,vh,V0,oE⟩:Bx (tE fn k r p) V (200000*z*R.ab V) (mg (p-6))/\R.pz (-1075)<=R.ab V/\R.ab V<=R.pz 1075/\V≠0/\(fn=4\/fn=5->On (tE fn k r p)/\Bx (tE fn k r p) V (16384*z*R.ab V) (mg (p-6))):=by
  rcases hf with rfl |rfl |rfl
  ·have a:V=S:=by rw[hV,hS];rfl
   have b:tE 4 k r p=t.1:=by rw[ht];rfl
   rw[a,b];exact⟨wQ b1 (by have:=R.aF (cFS z0) (R.aM S);grind),sS.1,by grind,S0,fun _=>⟨aVB.1,b1⟩⟩
  ·have a:V=C:=by rw[hV,hC];rfl
   have b:tE 5 k r p=t.2:=by rw[ht];rfl
   rw[a,b];exact⟨wQ b2 (by have:=R.aF (cFS z0) (R.aM C);grind),sC.1,by grind,C0,fun _=>⟨aVB.2,b2⟩⟩
  ·have a:V=S/C:=by rw[hV,hS,hC];rfl
   have b:tE 6 k r p=(aN (iS.Ki (p+16) t.1.1 t.1.2 t.2.1 t.2.2).1 (iS.Ki (p+16) t.1.1 t.1.2 t.2.1 t.2.2).2,aN (iS.Kj (p+16) t.1.1 t.1.2 t.2.1 t.2.2).1 (iS.Kj (p+16) t.1.1 t.1.2 t.2.1 t.2.2).2):=by rw[ht];rfl
   rw[a,b];exact⟨wQ bq (by have:=R.aF (cFS z0) (R.aM (S/C));grind),tV.1,tV.2,bLI,fun h=>by omega⟩
 have nE:=aEA bE (by grind) V0;have bEE:2*R.pz 1075<=R.pz 1100:=by rw[<-R.kF];exact R.cG (by omega)
 obtain⟨bGK,bGJ,bO⟩:=Yw (n:=p+20) bE (by omega) (by grind) (by grind);rw[bFY]at bO;have bX:Bx (tO fn k r p) V (524288*z*R.ab V) (mg (p-6)):=by
  refine wQ bO ?_;have k1:=R.aF (cFS z0) (show 0<=5/4*R.ab V-R.ab (R.qz (tE fn k r p).1) by grind);have k2:=R.aF (cFS z0) (show 0<=5/4*R.ab V-R.ab (R.qz (tE fn k r p).2) by grind);have k3:=R.aF (cFS z0) (R.aM V);grind
 have bY:fn=4\/fn=5->Bx (tO fn k r p) V (32768*z*R.ab V) (mg (p-6)):=by
  intro h;obtain⟨_,_,b⟩:=Yw (n:=p+20) (oE h).2 (by omega) (by grind) (by grind);rw[bFY]at b;refine wQ b ?_;have k1:=R.aF (cFS z0) (show 0<=5/4*R.ab V-R.ab (R.qz (tE fn k r p).1) by grind);have k2:=R.aF (cFS z0) (show 0<=5/4*R.ab V-R.ab (R.qz (tE fn k r p).2) by grind);have k3:=R.aF (cFS z0) (R.aM V);grind
 have g1:=zF false (tE fn k r p).1 (p+20).toNat;have g2:=zF true (tE fn k r p).2 (p+20).toNat;rw[show(((p+20).toNat:Nat):Int)=p+20 by omega]at g1 g2;have nX:=aEA bX (by grind) V0;have m1:(tO fn k r p).1.1≠0:=tI (by grind);have m2:(tO fn k r p).2.1≠0:=tI (by grind);have x1:=Ip (up:=false) (p:=(tE fn k r p).1) (n:=p+20) m1;have x2:=Ip (up:=true) (p:=(tE fn k r p).2) (n:=p+20) m2;have bDK:R.pz (-1076)<=3/4*R.pz (-1075):=by
  have:=R.qA (-1075);rw[show(-1075:Int)-1=-1076 by rfl]at this;grind
 have y1:=Cl (p:=(tE fn k r p).1) (E:=-1076) (tI (by grind)) (by grind);have y2:=Cl (p:=(tE fn k r p).2) (E:=-1076) (tI (by grind)) (by grind);have aHB:tv fn k (R.sn (R.qz r*R.pi)) (R.cs (R.qz r*R.pi))=V:=by rw[<-hρ,hV]
 refine⟨ci,bs.zA,bc.zA,?_,bE.zA,bGK,bGJ,?_,?_,?_,?_,?_,?_,?_,?_⟩
 ·rw[<-ht];exact⟨q0,⟨bWK z1.1 (by omega),bWK z2.1 (by omega),bWK z3.1 (by omega),bWK z4.1 (by omega)⟩,q1,q2⟩
 ·rw[aHB];exact V0
 ·rw[aHB];exact vl
 ·rw[aHB];exact vh
 ·rw[aHB,e1];exact bX
 ·rw[aHB,e5];exact bY
 ·constructor
  ·show((bl (shD false (tE fn k r p).1 (p+20)).1.natAbs:Nat):Int)<=_;omega
  ·show((bl (shD true (tE fn k r p).2 (p+20)).1.natAbs:Nat):Int)<=_;omega
 ·constructor
  ·show -p-1200<=(shD false (tE fn k r p).1 (p+20)).2;omega
  ·show -p-1200<=(shD true (tE fn k r p).2 (p+20)).2;omega
 ·intro h2;exact⟨Ra (by omega) (oE h2).1.1,Ra (by omega) (oE h2).1.2⟩
theorem aPD{m e:Int}(he:e<0):-p2 (-1-e)<=dA.Uq (m,e)/\dA.Uq (m,e)<p2 (-1-e):=by
 unfold dA.Uq dA.Bp
 try dsimp only
 rw[aW,aW];have h1:p2 (-e)=p2 (-1-e)*2:=by
  have:=sL (m:=-1-e) (n:=1) (by omega) (by omega);rwa [show -1-e+1=-e by omega]at this
 have h2:p2 (1-e)=p2 (-1-e)*4:=by
  have:=sL (m:=-1-e) (n:=2) (by omega) (by omega);rwa [show -1-e+2=1-e by omega]at this
 rw[h1,h2];have hp:=Kn (-1-e);generalize p2 (-1-e)=v at *;have a1:=cEH (m*4+v*2) (v*4);have a2:=cEI (m*4+v*2) (show v*4≠0 by omega);have a3:=cEJ (m*4+v*2) (show 0<v*4 by omega);generalize (m*4+v*2)/(v*4)=K at *;have e1:v*4*K=K*v*4:=by rw[Int.mul_comm,cAZ]
 have e2:K*(v*2)=K*v*2:=by rw[cAZ]
 rw[e1]at a1;rw[e2];generalize K*v=t at *;omega
theorem aUP{a:Int×Int}(he:-1074<=a.2/\a.2<=-2)(ho:a.1%2=1):bED (dA.Hu a):=by
 obtain⟨m,e⟩:=a;dsimp only at he ho;have rr:=aPD (m:=m) (e:=e) (by omega);have hR:dA.Uq (m,e)=m*2-dA.Bp (m,e)*p2 (-e):=by
  unfold dA.Uq;dsimp only;rw[aW]
 have hD:dA.Hu (m,e)=aN (dA.Uq (m,e)) (e-1):=rfl;have h4:p2 (-e)=p2 (-2-e)*4:=by
  have:=sL (m:=-2-e) (n:=2) (by omega) (by omega);rwa [show -2-e+2=-e by omega]at this
 rw[h4,<-cAZ]at hR;rw[hD];generalize dA.Bp (m,e)*p2 (-2-e)=q at hR;generalize dA.Uq (m,e)=z at *;have z0:z≠0:=by omega
 obtain⟨j,hj⟩:=cAS (show 0<=-1-e by omega);have hp:p2 (-1-e)=((2^j:Nat):Int):=by rw[hj,Cq]
 have za:z.natAbs<=2^j:=by omega
 have zb:bl z.natAbs<=j+1:=cZ.2 (by rw[cAN];have:=bYO (n:=j) (show 0<2 by decide);omega);have tl:tz z.natAbs<=j:=by
  have:=Jo (n:=z.natAbs) (by omega);rcases Nat.lt_or_ge j (tz z.natAbs)with h |h
  ·have h5:2^(j+1)<=2^tz z.natAbs:=gO;rw[cAN]at h5;have:=bYO (n:=j) (show 0<2 by decide);omega
  ·exact h
 have x1:=(lE (e:=e-1) z0).2;have eq:R.qz (aN z (e-1))=R.qz (z,e-1):=oI _ _;have e1:R.pz (e-1)*((2^j:Nat):Rat)=1/4:=by
  rw[<-R.dY,show e-1+(j:Int)=-2 by omega];have e:=R.fS 0 (n:=2) (c:=4) (by norm_cast);rw[R.fV,show(0:Int)-((2:Nat):Int)=-2 by rfl]at e;grind
 have P:=R.dJ (e-1);refine⟨gM (gQ (by omega) (by omega)) (by omega),bWK (vE _ _) (by omega),by omega,?_,?_⟩
 ·rw[eq,Qf];have h1:(z.natAbs:Rat)<=((2^j:Nat):Rat):=by exact_mod_cast za
  have:=R.aF (cFS P) (show 0<=((2^j:Nat):Rat)-(z.natAbs:Rat) by grind);dsimp only;grind
 ·rw[eq,Qf];have h1:(1:Rat)<=(z.natAbs:Rat):=by exact_mod_cast(show 1<=z.natAbs by omega)
  have:=R.aF (cFS P) (show 0<=(z.natAbs:Rat)-1 by grind);have:=R.cG (show(-1075:Int)<=e-1 by omega);dsimp only;grind
end M
namespace W
open Go AI M
namespace aAQ
def E:=mE [(57,Xi.aJ)] 8 [] [] []
def aE:=bd f62
theorem aX:Nk E aE:=nk
theorem start a:aH E f62 aE [D.s (sc (int i64 a))]=letI A:=bif gY a 0 then aN a 0 else((0:Int),(0:Int));letI C:=M6.dg A.fst.natAbs;letI B:=bool (isNeg A.fst);aO (((-9223372036854775808:Int)<=a/\a<9223372036854775808)/\(-9223372036854775808:Int)<=(0:Int)/\(0:Int)<(9223372036854775808:Int)) (aO (((-9223372036854775808:Int)<=a/\a<9223372036854775808)/\(-9223372036854775808:Int)<=(0:Int)/\(0:Int)<(9223372036854775808:Int)) (some [D.agg [sc B,ints u64 C,sc (int i64 A.snd),sc B,ints u64 C,sc (int i64 A.snd)]])):=eJ aX
def sD(p q:Int×Int):D:=.agg [.sc (.bool (isNeg p.1)),.ints .u64 (M6.dg p.1.natAbs),.sc (.int .i64 p.2),.sc (.bool (isNeg q.1)),.ints .u64 (M6.dg q.1.natAbs),.sc (.int .i64 q.2)]
def sp(m:Int):Prop×List D:=(-9223372036854775808<=m/\m<9223372036854775808,[sD (aN m 0) (aN m 0)])
theorem spec:jE E f62 aE (pN .i64) sp:=by
 intro m h;have h:-9223372036854775808<=m/\m<9223372036854775808:=h;refine(start m).trans ?_;have hb:bl m.natAbs<=64:=cZ.2 (by omega);rw[gP ⟨h,by omega,by omega⟩,gP ⟨h,by omega,by omega⟩];have e:(bif gY m 0 then aN m 0 else((0:Int),(0:Int)))=aN m 0:=by rw[gQ (by omega) (by omega)];rfl
 rw[e];rfl
def aJ:dK:=orc1 (pN .i64) sp
theorem ok:OK 62 aJ:=(eZ E aE (aA Xi.ok aD) func62).pU rfl spec
end aAQ
namespace Et
def aXF(fn:Int)(b:Int):Int:=if(fQ.nY 64 b).1=0 then(if fn=5 then 1 else 0)else if(fF.Bt fn (fQ.nY 64 b)).2.1=true then -(fF.Bt fn (fQ.nY 64 b)).1 else(fF.Bt fn (fQ.nY 64 b)).1
end Et
namespace rU
def E:=mE [(61,uS.aJ),(12,bR.aJ),(62,aAQ.aJ),(63,fF.aJ),(18,dA.aJ),(64,iC.aJ),(66,lC.aJ),(65,aNK.aJ)] 98 [33] [(3,[0,1,2,6])] [3]
def aE:=bd f19
theorem aX:Nk E aE:=nk
def J3 a b c d e f g:=mD E f19 aE 3 [bP a,dC b,bP c,dM 3 44 [cU d,sc (slice none 0 0),cV e,cU f,sc (slice none 0 0),cV g]]
theorem start a b c:aH E f19 aE [D.s (sc (int i64 a)),D.s (sc (int u64 b)),D.s (sc (int i64 c))]=letI A:=some [D.agg [sc (bool false),sc (slice none 0 0),sc (int i64 0),sc (bool false),sc (slice none 0 0),sc (int i64 0)],D.s (sc (int i64 1))];aO True (aB (!uS.zO a) A (aB (decide (c<1)) A (aB (decide (66000<c)) A (rU.J3 a b c false 0 false 0)))):=eJ aX
theorem gU a b c d e f g:J3 a b c d e f g=letI F1:=bool false;letI A1:=aN 0 0;letI G1:=M6.dg A1.fst.natAbs;letI Z:=aN 1 0;letI I1:=M6.dg Z.fst.natAbs;letI Y:=slice none 0 0;letI X:=i64.wrap (c+16);letI Q:=int i64 0;letI K:=i64.wrap (c+20);letI G:=bif cB.jD 64 b then dA.Hu (dA.rJ b)else((0:Int),(0:Int));letI F:=i64.wrap (c+16)+2;letI C:=bif cS.fN 64 b&&cB.jD 64 b then aN (bR.nB 64 b) (bR.nI 64 b)else((0:Int),(0:Int));aO (((64:Int)=(32:Int)\/(64:Int)=(64:Int))/\0<=b/\b<18446744073709551616) (aC (isNeg C.fst) fun h=>aC (M6.dg C.fst.natAbs) fun i=>aC C.snd fun j=>letI T:=fF.Bt a (dv (h,i,j));aC (bif cS.fN 64 b then bif cB.jD 64 b then(0:Int)else(6:Int)else(2:Int)) fun k=>aB (k !=0) (some [D.agg [sc F1,sc Y,sc Q,sc F1,sc Y,sc Q],D.s (sc (int i64 k))]) (aB ((i.length:Int)==(0:Int)) (aB (a==5) (aO ((-9223372036854775808:Int)<=(1:Int)/\(1:Int)<(9223372036854775808:Int)) (aC (isNeg Z.fst) fun l=>aC I1 fun m=>aC Z.snd fun n=>aC (isNeg Z.fst) fun o=>aC I1 fun p=>aC Z.snd fun q=>some [D.agg [sc (bool l),ints u64 m,sc (int i64 n),sc (bool o),ints u64 p,sc (int i64 q)],D.s (sc Q)])) (aO ((-9223372036854775808:Int)<=(0:Int)/\(0:Int)<(9223372036854775808:Int)) (aC (isNeg A1.fst) fun r=>aC G1 fun s=>aC A1.snd fun t=>aC (isNeg A1.fst) fun u=>aC G1 fun v=>aC A1.snd fun w=>some [D.agg [sc (bool r),ints u64 s,sc (int i64 t),sc (bool u),ints u64 v,sc (int i64 w)],D.s (sc Q)]))) (aO (aQ (h,i,j)) (aC T.fst fun x=>letI B1:=aN x 0;letI H1:=M6.dg B1.fst.natAbs;letI H:=aN (i64.wrap ((0:Int)-x)) 0;letI K1:=M6.dg H.fst.natAbs;aC T.snd.fst fun y=>aC T.snd.snd fun z=>aB z (aB (x==2) (some [D.agg [sc F1,sc Y,sc Q,sc F1,sc Y,sc Q],D.s (sc (int i64 6))]) (aB y (aO ((-9223372036854775808:Int)<=i64.wrap ((0:Int)-x)/\i64.wrap ((0:Int)-x)<9223372036854775808) (aC (isNeg H.fst) fun aa=>aC K1 fun ab=>aC H.snd fun ac=>aC (isNeg H.fst) fun ad=>aC K1 fun ae=>aC H.snd fun af=>some [D.agg [sc (bool aa),ints u64 ab,sc (int i64 ac),sc (bool ad),ints u64 ae,sc (int i64 af)],D.s (sc Q)])) (aO ((-9223372036854775808:Int)<=x/\x<9223372036854775808) (aC (isNeg B1.fst) fun ag=>aC H1 fun ah=>aC B1.snd fun ai=>aC (isNeg B1.fst) fun aj=>aC H1 fun ak=>aC B1.snd fun al=>some [D.agg [sc (bool ag),ints u64 ah,sc (int i64 ai),sc (bool aj),ints u64 ak,sc (int i64 al)],D.s (sc Q)])))) (aO (0<=b/\b<18446744073709551616) (aC (bif cB.jD 64 b then dA.Bp (dA.rJ b)%4 else(0:Int)) fun am=>aC (isNeg G.fst) fun an=>aC (M6.dg G.fst.natAbs) fun ao=>aC G.snd fun ap=>letI A:=iC.Cx (dv (an,ao,ap)) X;letI P:=gC A.fst A.snd F;letI O:=gS A.fst A.snd F;aO (aQ (an,ao,ap)/\(1<=i64.wrap (c+16)/\i64.wrap (c+16)<=66500)/\iC.aRU (dv (an,ao,ap)) X) (aC (isNeg O.fst.fst) fun aq=>aC (M6.dg O.fst.fst.natAbs) fun ar=>aC O.fst.snd fun au=>aC (isNeg O.snd.fst) fun av=>aC (M6.dg O.snd.fst.natAbs) fun aw=>aC O.snd.snd fun ax=>letI C1:=(aq,ar,au,av,aw,ax);aC (isNeg P.fst.fst) fun ay=>aC (M6.dg P.fst.fst.natAbs) fun az=>aC P.fst.snd fun ba=>aC (isNeg P.snd.fst) fun bb=>aC (M6.dg P.snd.fst.natAbs) fun bc=>aC P.snd.snd fun be=>letI D1:=(ay,az,ba,bb,bc,be);letI N:=VTurned.trn (lC.eS C1) (lC.eS D1) am.toNat;letI B:=lC.aSJ a am.toNat (lC.eS C1) (lC.eS D1) X;aO ((eQ C1/\eQ D1)/\(0<=am/\am<=3)/\(1<=i64.wrap (c+16)/\i64.wrap (c+16)<=70000)/\(a≠4->a≠5->lC.aPJ X N.fst N.snd)) (aC (isNeg B.fst.fst) fun bf=>aC (M6.dg B.fst.fst.natAbs) fun bg=>aC B.fst.snd fun bh=>aC (isNeg B.snd.fst) fun bi=>aC (M6.dg B.snd.fst.natAbs) fun bj=>aC B.snd.snd fun bk=>letI I:=(bf,bg,bh,bi,bj,bk);letI W:=M.shD true (dv (hI I)) K;letI U:=M.shD false (dv (gZ I)) K;aO (eQ I/\(1<=i64.wrap (c+20)/\i64.wrap (c+20)<=70000)/\wZ false (dv (gZ I)) K=true/\wZ true (dv (hI I)) K=true) (aC (isNeg U.fst) fun bm=>aC (M6.dg U.fst.natAbs) fun bn=>aC U.snd fun bo=>aC (isNeg W.fst) fun bp=>aC (M6.dg W.fst.natAbs) fun bq=>aC W.snd fun br=>some [D.agg [sc (bool bm),ints u64 bn,sc (int i64 bo),sc (bool bp),ints u64 bq,sc (int i64 br)],D.s (sc Q)]))))))))):=cJ aX
def aXA(fn b:Int):Bool:=(fQ.nY 64 b).1==0||(fF.Bt fn (fQ.nY 64 b)).2.2
def aSU(fn b:Int):Bool:=(fQ.nY 64 b).1 !=0&&(fF.Bt fn (fQ.nY 64 b)).2.2&&(fF.Bt fn (fQ.nY 64 b)).1==2
def aSK(fn b p:Int):(Int×Int)×(Int×Int):=bif aXA fn b then(bif aSU fn b then((0,0),(0,0))else(aN (Et.aXF fn b) 0,aN (Et.aXF fn b) 0))else tO fn (dA.Bp (dA.rJ b)) (dA.Hu (dA.rJ b)) p
def sp(fn b p:Int):Prop×List D:=((0<=b/\b<18446744073709551616)/\(fn=4\/fn=5\/fn=6)/\(1<=p/\p<=66000)/\cB.jD 64 b=true,[uX (aSK fn b p).1 (aSK fn b p).2,.s (.sc (.int .i64 (bif aSU fn b then 6 else 0)))])
theorem fold(a b:Int×Int):(isNeg a.1,M6.dg a.1.natAbs,a.2,isNeg b.1,M6.dg b.1.natAbs,b.2)=mN a b:=rfl
theorem aJS{fn b:Int}(h:0<=b)(hf:cB.jD 64 b=true)(h4:fn=4\/fn=5\/fn=6)(hx:aXA fn b=false):bED (dA.Hu (dA.rJ b)):=by
 obtain⟨hp,hm,e0,e1⟩:=dA.aJO h hf;unfold aXA at hx;rw[show fQ.nY 64 b=dA.rJ b from rfl]at hx;generalize dA.rJ b=q at *;have z0:q.1≠0:=fun hz=>by rw[hz]at hx;exact Bool.noConfusion hx
 have hv:(fF.Bt fn q).2.2=false:=by
  cases hc:(fF.Bt fn q).2.2 with
  |false=>rfl
  |true=>rw[hc,Bool.or_true]at hx;exact Bool.noConfusion hx
 have he:q.2<=-2:=by
  rcases Int.lt_or_le (-2) q.2 with jB |hle
  ·exfalso;unfold fF.Bt at hv
   by_cases c0:0<=q.2
   ·rcases h4 with rfl |rfl |rfl <;> simp[c0]at hv
   ·have c1:q.2=-1:=by omega
    rcases h4 with rfl |rfl |rfl <;> simp[c1]at hv
  ·exact hle
 exact aUP ⟨e0,he⟩ (hp.2.2.2 z0)
theorem spec:aXU E f19 aE (pN .i64) (pN .u64) (pN .i64) sp:=by
 rintro fn b p ⟨h,h4,⟨zS,vQ⟩,hf⟩;have hp:cS.fN 64 b=true:=rfl;have hk:uS.zO fn=true:=by rcases h4 with rfl |rfl |rfl <;> rfl
 have e1:(bif cS.fN 64 b&&cB.jD 64 b then aN (bR.nB 64 b) (bR.nI 64 b)else((0:Int),(0:Int)))=fQ.nY 64 b:=by rw[hp,hf];rfl
 have e2:(bif cS.fN 64 b then bif cB.jD 64 b then(0:Int)else 6 else 2)=0:=by rw[hp,hf];rfl
 have s:=(start fn b p).trans (gP trivial);rw[hk,bXO,bF,aL,aL,gU,gP ⟨.inr rfl,h⟩,e1,e2,Bv,vl,gG rfl]at s;have aFC:=(fQ.Vc (.inr rfl) h.1 hf).1;have hn:aXA fn b=false->bED (dA.Hu (dA.rJ b)):=aJS h.1 hf h4;have bBP:fQ.nY 64 b=dA.rJ b:=rfl;unfold sp aSK;dsimp only;unfold aXA aSU Et.aXF at *;generalize fQ.nY 64 b=q at *;have hl:(M6.dg q.1.natAbs).length=0↔q.1=0:=by rw[M6.iQ];omega
 by_cases hz:q.1=0
 ·refine⟨_,s.trans ?_,iD.refl _⟩;rw[cO (by have:=hl.2 hz;omega),if_pos hz,hz]
  by_cases h5:fn=5
  ·rw[cO h5,if_pos h5,gP];rfl
  ·rw[bN h5,if_neg h5,gP];rfl
 ·rw[bN (fun h=>hz (hl.1 (by omega))),gP (dG aFC),dU,vl,vl,vl]at s;rw[show(q.1==0)=false from beq_eq_false_iff_ne.2 hz,show(q.1 !=0)=true by simp[hz],bXP,bYQ,if_neg hz];have hn:=fun hx=>hn (by rw[show(q.1==0)=false from beq_eq_false_iff_ne.2 hz,bXP];exact hx)
  have hs:=fQ.aDL fn q;cases hv:(fF.Bt fn q).2.2 with
  |true =>
   rw[hv,bT]at s;rw[cond_true,bYQ]
   by_cases c2:(fF.Bt fn q).1=2
   ·rw[cO c2]at s;rw[c2];refine⟨_,s,.cons ?_ (iD.refl _)⟩;show yO _ (uX (0,0) (0,0));unfold uX;dsimp only;rw[show(0:Int).natAbs=0 from rfl,M6.cK];exact yO.agg (.cons (Da.refl _) (.cons (Da.nil _) (.cons (Da.refl _) (.cons (Da.refl _) (.cons (Da.nil _) (yH.refl _))))))
   ·rw[bN c2]at s;rw[show((fF.Bt fn q).1==2)=false from beq_eq_false_iff_ne.2 c2];refine⟨_,s.trans ?_,iD.refl _⟩;cases hg:(fF.Bt fn q).2.1 with
    |false=>rw[bF,if_neg (by simp),gP];rfl
    |true=>rw[bT,if_pos rfl,wrap_i64 (n:=0-(fF.Bt fn q).1),Int.zero_sub,gP];rfl
  |false =>
   have hr:=hn hv;rw[hv,bF,gP h,hf]at s;rw[cond_false,cAV];dsimp only[cond_true]at s;have N:=aIA (k:=dA.Bp (dA.rJ b)) hr ⟨zS,vQ⟩ h4;have w1:i64.wrap (p+16)=p+16:=wrap_i64;have w2:i64.wrap (p+20)=p+20:=wrap_i64;have bLA:p+16+2=p+18:=by omega
   have N2:=N.bx.zA;generalize dA.Bp (dA.rJ b)=k at *;generalize dA.Hu (dA.rJ b)=r at *;rw[vl,Bv,w1,dU,bLA]at s;have s:=s.trans (gP ⟨dG hr.vD,⟨by omega,by omega⟩,N.ci⟩);rw[show gS (iC.Cx r (p+16)).1 (iC.Cx r (p+16)).2 (p+18)=tS r p from rfl,show gC (iC.Cx r (p+16)).1 (iC.Cx r (p+16)).2 (p+18)=tC r p from rfl]at s;have eS:lC.eS (mN (tS r p).1 (tS r p).2)=tS r p:=by
    show(dv (gZ (mN _ _)),dv (hI (mN _ _)))=_;rw[oN,oO]
   have eC:lC.eS (mN (tC r p).1 (tC r p).2)=tC r p:=by
    show(dv (gZ (mN _ _)),dv (hI (mN _ _)))=_;rw[oN,oO]
   rw[aG,aG,aG,aG,aG,aG,aG,aG,aG,aG,aG,aG,fold,fold,eS,eC]at s;have s:=s.trans (gP ⟨⟨N.sS,N.sC⟩,⟨cEI _ (by decide),by omega⟩,⟨by omega,by omega⟩,fun _ _=>N.qu⟩);rw[show lC.aSJ fn (k%4).toNat (tS r p) (tC r p) (p+16)=tE fn k r p from rfl,aG,aG,aG,aG,aG,aG,fold,w2,oN,oO]at s;have s:=s.trans (gP ⟨N.re,⟨by omega,by omega⟩,N.s1,N.s2⟩);exact⟨_,s,iD.refl _⟩
def aJ:dK:=orc3 (pN .i64) (pN .u64) (pN .i64) sp
theorem ok:OK 19 aJ:=(eZ E aE (aA uS.ok (aA bR.ok (aA aAQ.ok (aA fF.ok (aA dA.ok (aA iC.ok (aA lC.ok (aA aNK.ok aD)))))))) func19).bGH rfl spec
end rU
end W
namespace M
open Go AI W
structure bOY(s:(Int×Int)×(Int×Int))(V:Rat)(p:Int):Prop where
 f1:bOX s.1 66021 (-p-1200) 1
 f2:bOX s.2 66021 (-p-1200) 1
 lo:R.qz s.1<=V
 hi:V<=R.qz s.2
theorem bOY.sp{s:(Int×Int)×(Int×Int)}{V:Rat}{p:Int}(h:bOY s V p):eQ (mN s.1 s.2):=by
 have:=h.lo;have:=h.hi;exact xF h.f1.vD h.f2.vD (kX.2 (by grind))
end M
namespace M
open Go AI W
def vT(fn b:Int):Rat:=tv fn (dA.Bp (dA.rJ b)) (R.sn (R.qz (dA.Hu (dA.rJ b))*R.pi)) (R.cs (R.qz (dA.Hu (dA.rJ b))*R.pi))
end M
namespace AI
open Go Go.RowKit
structure aGG(α:Type) where
 put:α->Value
 get:Value->Option α
 eq:∀{v x},get v=some x->v=put x
def vN(k:IntKind):aGG Int where
 put n:=.int k n
 get
  | .int k' n=>if _h:k=k' then some n else none
  |_=>none
 eq:=by
  intro v x h;split at h
  ·split at h
   ·rename_i hk;subst hk;cases h;rfl
   ·cases h
  ·cases h
def vF:aGG Nat where
 put g:=.func (.func g) #[] #[]
 get
  | .func (.func g) ⟨[]⟩ ⟨[]⟩=>some g
  |_=>none
 eq:=by
  intro v x h;split at h
  ·cases h;rfl
  ·cases h
def vC(id:FuncId):aGG Unit where
 put _:=.func (.func id) #[] #[]
 get
  | .func (.func g) ⟨[]⟩ ⟨[]⟩=>if g=id then some ()else none
  |_=>none
 eq:=by
  intro v x h;split at h
  ·split at h
   ·rename_i hg;subst hg;rfl
   ·cases h
  ·cases h
structure aNQ(α:Type) where
 put:α->List Value
 get:List Value->Option α
 eq:∀{v x},get v=some x->v=put x
def l1{α:Type}(p:aGG α):aNQ α where
 put a:=[p.put a]
 get
  | [v]=>p.get v
  |_=>none
 eq:=by
  intro v x h;split at h
  ·rw[p.eq h]
  ·cases h
def lc{α β:Type}(p:aGG α)(q:aNQ β):aNQ (α×β) where
 put a:=p.put a.1 :: q.put a.2
 get
  |v :: r=>match p.get v,q.get r with
   |some a,some b=>some (a,b)
   |_,_=>none
  |_=>none
 eq:=by
  intro v x h;split at h
  ·split at h
   ·rename_i h1 h2;cases h;rw[p.eq h1,q.eq h2]
   ·cases h
  ·cases h
def pPt{α:Type}(p:aGG α):kM α where
 put a:=.s (.pt (p.put a))
 get
  | .s (.pt v)=>p.get v
  |_=>none
 le:=by
  intro d x h;split at h
  ·rw[p.eq h];exact Cj.refl _
  ·cases h
def pClo{α:Type}(k:FuncId)(p:aNQ α):kM α where
 put a:=.s (.Sr k (p.put a))
 get
  | .s (.Sr k' xs)=>if k=k' then p.get xs else none
  |_=>none
 le:=by
  intro d x h;split at h
  ·split at h
   ·rename_i hk;subst hk;rw[p.eq h];exact Cj.refl _
   ·cases h
  ·cases h
def bAA{α:Type}(k:FuncId)(p:aNQ α):SPar α:=bEP (pClo k p) (fun a=>.Sr k (p.put a)) fun _=>rfl
theorem aPP{P:Program}{G:Nat->Option (IntKind×List Int)}{f:FuncId}{α β γ δ:Type}{p:kM α}{q:kM β}{r:kM γ}{s:kM δ}{sp:α->β->γ->δ->Prop×List D}(hb:oG P f)
  (h:∀a b c d,(sp a b c d).1->Contract P G f [p.put a,q.put b,r.put c,s.put d] (sp a b c d).2):kY P G f (orc4 p q r s sp):=by
 intro ds g rs ho hg;unfold orc4 at ho;split at ho
 ·split at ho
  ·rename_i h1 h2 h3 h4;have e:=Option.some.inj ho;have c:=(h _ _ _ _ (by rw[e];exact hg)).bLY (p.le h1) (q.le h2) (r.le h3) (s.le h4);rw[e]at c;exact⟨c,hb⟩
  ·cases ho
 ·cases ho
end AI
namespace W
open Go AI M
namespace fZ
def E:=mE [(31,eN.aJ)] 22 [] [(4,[0,4,6,7])] [4]
def aE:=bd f73
theorem aX:Nk E aE:=nk
def J4 a b c d:=mD E f73 aE 4 [bP a,dM 1 42 [cV b],dM 2 129 [cV c,sc Value.nilFunc],dM 3 22 [Yg d]]
theorem start a b c:aH E f73 aE [D.s (sc (int i64 a)),D.s (sc (int i64 b)),D.s (sc (int u64 c))]=aB (a==32) (aO (0<=c/\c<18446744073709551616) (fZ.J4 a b 0 (eN.Jm c))) (fZ.J4 a b 0 c):=eJ aX
theorem Ci a b c d:J4 a b c d=aB (decide (4<=b)) (some [D.agg [sc (int i64 a),S.Sr 126 [Value.func (Fn.func 19) { toList:=[] } { toList:=[] },int i64 b,int u64 d]]]) (some [D.agg [sc (int i64 a),S.Sr 126 [Value.func (Fn.func 125) { toList:=[] } { toList:=[] },int i64 b,int u64 d]]]):=cJ aX
def xV(f b:Int):Int:=if f=32 then eN.Jm b else b
def gV(fn:Int):Nat:=if 4<=fn then 19 else 125
def sp(f fn b:Int):Prop×List D:=(0<=b/\b<18446744073709551616,[.agg [.sc (.int .i64 f),.Sr 126 [.func (.func (gV fn)) #[] #[],.int .i64 fn,.int .u64 (xV f b)]]])
theorem spec:oK E f73 aE (pN .i64) (pN .i64) (pN .u64) sp:=by
 intro f fn b h;have hb:0<=b/\b<18446744073709551616:=h;have j:∀x1:Int,J4 f fn 0 x1=some [.agg [.sc (.int .i64 f),.Sr 126 [.func (.func (gV fn)) #[] #[],.int .i64 fn,.int .u64 x1]]]:=by
  intro x1;rw[Ci];unfold gV
  by_cases h4:4<=fn
  ·rw[aP h4,if_pos h4]
  ·rw[aL h4,if_neg h4]
 refine(start f fn b).trans ?_;unfold sp xV;dsimp only
 by_cases h1:f=32
 ·rw[cO h1,if_pos h1,gP hb,j]
 ·rw[bN h1,if_neg h1,j]
def aJ:dK:=orc3 (pN .i64) (pN .i64) (pN .u64) sp
theorem ok:OK 73 aJ:=(eZ E aE (aA eN.ok aD) func73).yK rfl spec
end fZ
namespace Bn
def E:=mE [(125,kC.aJ)] 14 [11] [] []
def aE:=bd f126
theorem aX:Nk E aE:=nk
theorem start p fn x:aH E f126 aE [D.s (sc (int i64 p)),D.s (S.pt (Value.func (Fn.func (125:FuncId)) #[] #[])),D.s (S.pt (int i64 fn)),D.s (S.pt (int u64 x))]=letI A:=kC.aRH fn x p;aO (0<=x/\x<18446744073709551616) (aC (isNeg A.fst.fst) fun a=>aC (M6.dg A.fst.fst.natAbs) fun b=>aC A.fst.snd fun c=>aC (isNeg A.snd.fst) fun d=>aC (M6.dg A.snd.fst.natAbs) fun e=>aC A.snd.snd fun f=>some [D.agg [sc (bool a),ints u64 b,sc (int i64 c),sc (bool d),ints u64 e,sc (int i64 f)],D.s (sc (int i64 (fA.Tx fn x p)))]):=eJ aX
def sp(p:Int)(_:Unit)(fn x:Int):Prop×List D:=(0<=x/\x<18446744073709551616,[uX (kC.aRH fn x p).1 (kC.aRH fn x p).2,.s (.sc (.int .i64 (fA.Tx fn x p)))])
theorem spec:Om E f126 aE (pN .i64) (pPt (vC 125)) (pPt (vN .i64)) (pPt (vN .u64)) sp:=fun p u fn x h =>
 (start p fn x).trans (gP h)
def aJ:dK:=orc4 (pN .i64) (pPt (vC 125)) (pPt (vN .i64)) (pPt (vN .u64)) sp
theorem ok:OK 126 aJ:=(eZ E aE (aA kC.ok aD) func126).aOE rfl spec
end Bn
namespace Bm
def E:=mE [(19,rU.aJ)] 14 [11] [] []
def aE:=bd f126
theorem aX:Nk E aE:=nk
theorem start p fn x:aH E f126 aE [D.s (sc (int i64 p)),D.s (S.pt (Value.func (Fn.func (19:FuncId)) #[] #[])),D.s (S.pt (int i64 fn)),D.s (S.pt (int u64 x))]=letI A:=rU.aSK fn x p;aO ((0<=x/\x<18446744073709551616)/\(fn=4\/fn=5\/fn=6)/\(1<=p/\p<=66000)/\cB.jD 64 x=true) (aC (isNeg A.fst.fst) fun a=>aC (M6.dg A.fst.fst.natAbs) fun b=>aC A.fst.snd fun c=>aC (isNeg A.snd.fst) fun d=>aC (M6.dg A.snd.fst.natAbs) fun e=>aC A.snd.snd fun f=>aC (bif rU.aSU fn x then(6:Int)else(0:Int)) fun g=>some [D.agg [sc (bool a),ints u64 b,sc (int i64 c),sc (bool d),ints u64 e,sc (int i64 f)],D.s (sc (int i64 g))]):=eJ aX
def sp(p:Int)(_:Unit)(fn x:Int):Prop×List D:=((0<=x/\x<18446744073709551616)/\(fn=4\/fn=5\/fn=6)/\(1<=p/\p<=66000)/\cB.jD 64 x=true,[uX (rU.aSK fn x p).1 (rU.aSK fn x p).2,.s (.sc (.int .i64 (bif rU.aSU fn x then 6 else 0)))])
theorem spec:Om E f126 aE (pN .i64) (pPt (vC 19)) (pPt (vN .i64)) (pPt (vN .u64)) sp:=fun p u fn x h =>
 (start p fn x).trans (gP h)
def aJ:dK:=orc4 (pN .i64) (pPt (vC 19)) (pPt (vN .i64)) (pPt (vN .u64)) sp
theorem ok:OK 126 aJ:=(eZ E aE (aA rU.ok aD) func126).aOE rfl spec
end Bm
namespace kG
def enc(g:Nat)(fn x p:Int):(Int×Int)×(Int×Int):=if g=125 then kC.aRH fn x p else rU.aSK fn x p
def pre(g:Nat)(fn x p:Int):Prop:=(g=125/\(0<=x/\x<18446744073709551616)/\fA.Tx fn x p=0)\/(g=19/\((0<=x/\x<18446744073709551616)/\(fn=4\/fn=5\/fn=6)/\(1<=p/\p<=66000)/\cB.jD 64 x=true)/\rU.aSU fn x=false)
def sp(p:Int)(g:Nat)(fn x:Int):Prop×List D:=(pre g fn x p,[uX (enc g fn x p).1 (enc g fn x p).2,.s (.sc (.int .i64 0))])
def aJ:dK:=orc4 (pN .i64) (pPt vF) (pPt (vN .i64)) (pPt (vN .u64)) sp
theorem ok:OK 126 aJ:=aPP (oJ func126 rfl rfl) fun p g fn x h=>by
 rcases h with ⟨rfl,h,h0⟩ |⟨rfl,h,h0⟩
 ·have c:=(Bn.ok _ _ _ (show Bn.aJ [(pN .i64).put p,(pPt (vC 125)).put (),(pPt (vN .i64)).put fn,(pPt (vN .u64)).put x]=some (Bn.sp p () fn x)from rfl) h).1;have e:(Bn.sp p () fn x).2=(sp p 125 fn x).2:=by unfold Bn.sp sp enc;rw[h0];rfl
  rw[<-e];exact c
 ·have c:=(Bm.ok _ _ _ (show Bm.aJ [(pN .i64).put p,(pPt (vC 19)).put (),(pPt (vN .i64)).put fn,(pPt (vN .u64)).put x]=some (Bm.sp p () fn x)from rfl) h).1;have e:(Bm.sp p () fn x).2=(sp p 19 fn x).2:=by unfold Bm.sp sp enc;rw[h0];rfl
  rw[<-e];exact c
end kG
namespace nP
def E:=mE [(84,mQ.aJ),(39,fQ.aJ),(82,gW.aJ)] 56 [26,37,51] [] []
def aE:=bd f72
theorem aX:Nk E aE:=nk
theorem start a b c d:aH E f72 aE [D.s (sc (int i64 a)),D.s (sc (int i64 b)),D.s (sc (int u64 c)),D.s (sc (int i64 d))]=letI F:=fQ.uP a b c;letI C:=aI.fR a;letI B:=sc (bool true);letI A:=aO True (some [D.s (sc (int u64 C.snd.snd.snd)),D.s B]);aB (d==4) A (aB (d==3) A (aB (decide (4<=b)) (aO (0<=c/\c<18446744073709551616) (some [D.s (sc (int u64 F.fst)),D.s (sc (bool F.snd.fst))])) (aB (d !=0) (some [D.s (sc (int u64 0)),D.s (sc (bool false))]) (aB (b==2) (aO ((a=32\/a=64)/\((0:Int)<=(1:Int)/\(1:Int)<(18446744073709551616:Int))/\(-4000:Int)<=(0:Int)/\(0:Int)<=(2900:Int)) (some [D.s (sc (int u64 (gW.Qq C false (gW.uM C 1 0)))),D.s B])) (some [D.s (sc (int u64 c)),D.s B]))))):=eJ aX
def Ui(f fn b c:Int):Int×Bool:=if c=4 then((aI.fR f).2.2.2,true)else if c=3 then((aI.fR f).2.2.2,true)else if 4<=fn then((fQ.uP f fn b).1,(fQ.uP f fn b).2.1)else if c=0 then(if fn=2 then(gW.Qq (aI.fR f) false (gW.uM (aI.fR f) 1 0),true)else(b,true))else(0,false)
def sp(f fn b c:Int):Prop×List D:=((f=32\/f=64)/\0<=b/\b<18446744073709551616,[.s (.sc (.int .u64 (Ui f fn b c).1)),.s (.sc (.bool (Ui f fn b c).2))])
theorem spec:Om E f72 aE (pN .i64) (pN .i64) (pN .u64) (pN .i64) sp:=by
 rintro f fn b c ⟨hf,hb⟩;refine(start f fn b c).trans ?_;unfold sp Ui;dsimp only
 by_cases h4:c=4
 ·rw[cO h4,if_pos h4,gP trivial]
 rw[bN h4,if_neg h4]
 by_cases h3:c=3
 ·rw[cO h3,if_pos h3,gP trivial]
 rw[bN h3,if_neg h3]
 by_cases h5:4<=fn
 ·rw[aP h5,if_pos h5,gP hb]
 rw[aL h5,if_neg h5]
 by_cases h0:c=0
 ·rw[gG h0,if_pos h0]
  by_cases h2:fn=2
  ·rw[cO h2,if_pos h2,gP ⟨hf,by omega,by omega,by omega⟩]
  ·rw[bN h2,if_neg h2]
 ·rw[nC h0,if_neg h0]
def aJ:dK:=orc4 (pN .i64) (pN .i64) (pN .u64) (pN .i64) sp
theorem ok:OK 72 aJ:=(eZ E aE (aA mQ.ok (aA fQ.ok (aA gW.ok aD))) func72).aOE rfl spec
end nP
namespace oM
def E:=mE [(78,aI.aJ),(135,cF.aJ)] 36 [] [(6,[1,4,8])] [6]
def aE:=bd f77
theorem aX:Nk E aE:=nk
def J6 a b c d e f g h i:=mD E f77 aE 6 [dC a,dM 1 84 [cV b,cV c,cV d,Yg e],dM 2 84 [cV f,cV g,cV h,Yg i]]
theorem start a b:aH E f77 aE [D.s (sc (int i64 a)),D.s (sc (int u64 b))]=letI A:=aI.fR a;letI G:=int i64 A.snd.fst;letI F:=int u64 A.snd.snd.snd;letI C:=int i64 A.snd.snd.fst;letI B:=oM.J6 b 0 0 0 0 A.fst A.snd.fst A.snd.snd.fst A.snd.snd.snd;aO True (aB (A.fst==0&&(A.snd.fst==0&&(A.snd.snd.fst==0&&(A.snd.snd.snd==0&&true)))) (some [D.agg [sc (int i64 A.fst),sc G,sc C,sc F],D.s (sc (bool false)),D.s (sc (int u64 0)),D.s (sc (int i64 1))]) (aB (decide (A.fst<64)) (if A.fst<0 then none else aB (b/(↑((2:Nat)^min A.fst.toNat 64):Int) !=(0:Int)) (some [D.agg [sc (int i64 A.fst),sc G,sc C,sc F],D.s (sc (bool false)),D.s (sc (int u64 0)),D.s (sc (int i64 2))]) B) B)):=eJ aX
def Sh(f b:Int):Int:=bif mQ.Cu f then(bif cS.fN f b then 0 else 2)else 1
def aUZ(f b:Int):Bool:=mQ.Cu f&&cS.fN f b
def sp(f b:Int):Prop×List D:=(0<=b/\b<18446744073709551616,[aI.bEO (aI.fR f),.s (.sc (.bool (aUZ f b&&decide (cF.cT (aI.fR f)<=b)))),.s (.sc (.int .u64 (bif aUZ f b then b%cF.cT (aI.fR f)else 0))),.s (.sc (.int .i64 (Sh f b)))])
theorem spec:gT E f77 aE (pN .i64) (pN .u64) sp:=by
 intro f b h;unfold sp aUZ Sh
 by_cases hf:f=32\/f=64
 ·rw[show mQ.Cu f=true from decide_eq_true hf,bYQ,cond_true];exact cS.spec f b ⟨hf,h⟩
 ·rw[show mQ.Cu f=false from decide_eq_false hf,cAV,cond_false];refine(start f b).trans ((gP trivial).trans ?_);have e:aI.fR f=(0,0,0,0):=by unfold aI.fR;rw[if_neg (fun h=>hf (.inl h)),if_neg (fun h=>hf (.inr h))]
  rw[e];rfl
def aJ:dK:=orc2 (pN .i64) (pN .u64) sp
theorem ok:OK 77 aJ:=(eZ E aE (aA aI.ok (aA cF.ok aD)) func77).mT rfl spec
end oM
namespace kI
def E:=mE [(77,oM.aJ),(79,fB.aJ)] 24 [13,23] [] []
def aE:=bd f83
theorem aX:Nk E aE:=nk
theorem start a b:aH E f83 aE [D.s (sc (int i64 a)),D.s (sc (int u64 b))]=letI A:=aI.fR a;letI B:=(A.fst,A.snd.fst,A.snd.snd.fst,A.snd.snd.snd);aO (0<=b/\b<18446744073709551616) (aB (oM.Sh a b !=0) (some [D.s (sc (int i64 0)),D.s (sc (int i64 (oM.Sh a b)))]) (aO (aI.vB B) (some [D.s (sc (int i64 (fB.fX B (bif oM.aUZ a b then b%cF.cT A else(0:Int))))),D.s (sc (int i64 0))]))):=eJ aX
def zZ(f b:Int):Int:=bif oM.aUZ f b then fB.fX (aI.fR f) (b%cF.cT (aI.fR f))else 0
def sp(f b:Int):Prop×List D:=(0<=b/\b<18446744073709551616,[.s (.sc (.int .i64 (zZ f b))),.s (.sc (.int .i64 (oM.Sh f b)))])
theorem spec:gT E f83 aE (pN .i64) (pN .u64) sp:=by
 intro f b h;refine(start f b).trans ((gP h).trans ?_);unfold sp zZ oM.Sh oM.aUZ
 by_cases hf:f=32\/f=64
 ·rw[show mQ.Cu f=true from decide_eq_true hf,bYQ,cond_true];have ht:=cB.Dk hf;cases hp:cS.fN f b with
  |false=>rfl
  |true =>
   try dsimp only[cond_true]
   rw[gG rfl,gP ht]
 ·rw[show mQ.Cu f=false from decide_eq_false hf];rfl
def aJ:dK:=orc2 (pN .i64) (pN .u64) sp
theorem ok:OK 83 aJ:=(eZ E aE (aA oM.ok (aA fB.ok aD)) func83).mT rfl spec
end kI
namespace iL
def E:=mE [(83,kI.aJ)] 24 [13] [] []
def aE:=bd f71
theorem aX:Nk E aE:=nk
theorem start a b c:aH E f71 aE [D.s (sc (int i64 a)),D.s (sc (int i64 b)),D.s (sc (int u64 c))]=letI B:=sc (int i64 (kI.zZ a c));letI A:=some [D.s B,D.s (sc (int i64 1))];aO (0<=c/\c<18446744073709551616) (aB (decide (b<1)) A (aB (decide (6<b)) A (some [D.s B,D.s (sc (int i64 (oM.Sh a c)))]))):=eJ aX
def vV(f fn b:Int):Int:=if fn<1 then 1 else if 6<fn then 1 else oM.Sh f b
def sp(f fn b:Int):Prop×List D:=(0<=b/\b<18446744073709551616,[.s (.sc (.int .i64 (kI.zZ f b))),.s (.sc (.int .i64 (vV f fn b)))])
theorem spec:oK E f71 aE (pN .i64) (pN .i64) (pN .u64) sp:=by
 intro f fn b h;refine(start f fn b).trans ((gP h).trans ?_);unfold sp vV;dsimp only
 by_cases h1:fn<1
 ·rw[aP h1,if_pos h1]
 ·rw[aL h1,if_neg h1]
  by_cases h2:6<fn
  ·rw[aP h2,if_pos h2]
  ·rw[aL h2,if_neg h2]
def aJ:dK:=orc3 (pN .i64) (pN .i64) (pN .u64) sp
theorem ok:OK 71 aJ:=(eZ E aE (aA kI.ok aD) func71).yK rfl spec
end iL
end W
namespace W.Ziv
open Go AI M W W.aSC
structure Ns(f fn b:Int):Prop where
 fin:Fin f b
 f1:1<=fn
 f6:fn<=6
 ex:4<=fn->(fF.Bt fn (fQ.nY f b)).2.2=false
theorem aRT{f b:Int}(hf:f=32\/f=64)(hb:0<=b/\b<18446744073709551616)(hp:cS.fN f b=true):b<2*sg f/\kI.zZ f b=(if b%sg f=0 then 0 else if b%sg f<cN.kJ (aI.fR f)then 1 else if b%sg f<mK.rN (Ig.Ix f)then 2 else if b%sg f=mK.rN (Ig.Ix f)then 3 else 4):=by
 obtain⟨e1,e2⟩:=aSO hf;constructor
 ·unfold cS.fN at hp;rcases hf with rfl |rfl
  ·rw[Bool.or_eq_true,decide_eq_true_eq,decide_eq_true_eq]at hp;have:sg 32=2147483648:=rfl;omega
  ·have:sg 64=9223372036854775808:=rfl;omega
 ·unfold kI.zZ oM.aUZ;rw[show mQ.Cu f=true from decide_eq_true hf,hp,bYQ,cond_true,e1];unfold fB.fX;rw[e2]
theorem Zu{f fn b:Int}(h:iL.vV f fn b=0):(f=32\/f=64)/\cS.fN f b=true/\1<=fn/\fn<=6:=by
 unfold iL.vV at h;split at h
 ·omega
 ·split at h
  ·omega
  ·unfold oM.Sh mQ.Cu at h
   by_cases hf:f=32\/f=64
   ·rw[decide_eq_true hf,cond_true]at h;cases hp:cS.fN f b with
    |true=>exact⟨hf,rfl,by omega,by omega⟩
    |false=>rw[hp]at h;cases h
   ·rw[decide_eq_false hf]at h;cases h
theorem aJP{f fn b:Int}(hb:0<=b/\b<18446744073709551616)(he:iL.vV f fn b=0)(hs:(nP.Ui f fn b (kI.zZ f b)).2=false):Ns f fn b:=by
 obtain⟨hf,hp,f1,f6⟩:=Zu he;obtain⟨aDG,hc⟩:=aRT hf hb hp;obtain⟨e1,e2⟩:=aSO hf;have h0:=cEI b (show sg f≠0 by unfold sg;split <;> omega);have hi:=(aZO.aKG hf).2.1;rw[e2]at hi;unfold nP.Ui at hs;generalize kI.zZ f b=cl at hc hs
 by_cases c0:b%sg f=0
 ·rw[if_pos c0]at hc;rw[aW,aW]at hs
  by_cases c4:4<=fn
  ·rw[if_pos c4,aZO.aRD hf ⟨c4,f6⟩ hp (by rw[e1];exact c0)]at hs;cases hs
  ·rw[if_neg c4,if_pos hc]at hs;split at hs <;> cases hs
 ·rw[if_neg c0]at hc;have fin:b%sg f<mK.rN (Ig.Ix f):=by
   apply Classical.byContradiction;intro hn;rw[aW,if_neg hn]at hc
   by_cases c3:b%sg f=mK.rN (Ig.Ix f)
   ·rw[if_pos c3]at hc;rw[aW,if_pos hc]at hs;cases hs
   ·rw[if_neg c3]at hc;rw[if_pos hc]at hs;cases hs
  refine⟨⟨hf,⟨hb.1,aDG⟩,by omega,fin⟩,f1,f6,fun c4=>?_⟩;have ex:=aZO.aWZ hf ⟨c4,f6⟩ hp (by rw[e1];omega) (by rw[e1,e2];exact fin);have bJR:cl=1\/cl=2:=by
   split at hc
   ·exact .inl hc
   ·first |exact .inr hc | (rw[if_pos fin]at hc;exact .inr hc)
  rw[aW,aW,if_pos c4,ex]at hs;cases hx:(fF.Bt fn (fQ.nY f b)).2.2 with
  |false=>rfl
  |true=>rw[hx,if_pos rfl]at hs;cases hs
theorem aOP{f b:Int}(h:Fin f b):Fin 64 (fZ.xV f b)/\fQ.nY 64 (fZ.xV f b)=fQ.nY f b:=by
 obtain⟨hf,hb,h1,h2⟩:=h;unfold fZ.xV;rcases hf with rfl |rfl
 ·have Fc:sg 32=2147483648:=rfl;have i32:mK.rN (Ig.Ix 32)=2139095040:=rfl;rw[Fc]at hb h1 h2;rw[i32]at h2;obtain⟨_,w1,w2,w3,w4,w5⟩:=aZO.aOQ hb.1 (by omega) h1 h2;rw[if_pos rfl];exact⟨⟨.inr rfl,⟨w1,w2⟩,w3,w4⟩,w5⟩
 ·rw[if_neg (by decide)];exact⟨⟨.inr rfl,hb,h1,h2⟩,rfl⟩
def vZ(fn x:Int):Rat:=if 4<=fn then vT fn x else vx fn x
structure aGQ(s:(Int×Int)×(Int×Int))(V:Rat)(p:Int):Prop where
 pl:jK s.1
 ph:jK s.2
 lo:R.qz s.1<=V
 hi:V<=R.qz s.2
 wd:R.qz s.2-R.qz s.1<=R.pz (-p-1)*R.ab V
 v0:V≠0
theorem aGQ.zA{s:(Int×Int)×(Int×Int)}{V:Rat}{p:Int}(h:aGQ s V p):eQ (mN s.1 s.2):=xF h.pl h.ph (kX.2 (by have:=h.lo;have:=h.hi;grind))
theorem aPK{p:Int}(hp:1<=p):R.pz (-p-1)<=1/4:=by
 have h1:=R.cG (show -p-1<=-2 by omega);have h2:R.pz (-2)*4=1:=by
  have:=R.fS 0 (n:=2) (c:=4) (by norm_cast);rwa [R.fV]at this
 grind
theorem aGQ.bGL{s:(Int×Int)×(Int×Int)}{V:Rat}{p:Int}(h:aGQ s V p)(hp:1<=p):(0<V->0<R.qz s.1)/\(V<0->R.qz s.2<0):=by
 obtain⟨_,_,lo,hi,wd,v0⟩:=h;have q:=aPK hp;have a0:=R.aM V;have m:=R.aF a0 (show 0<=1/4-R.pz (-p-1) by grind);have e:R.ab V*(1/4-R.pz (-p-1))=R.ab V/4-R.pz (-p-1)*R.ab V:=by grind
 rw[e]at m;generalize R.pz (-p-1)*R.ab V=W at *;constructor
 ·intro hV;rw[R.bG (cFS hV)]at m;grind
 ·intro hV;have:R.ab V=-V:=by unfold R.ab;rw[if_neg (by grind)]
  rw[this]at m;grind
theorem xQ{f fn b p:Int}(h:Ns f fn b)(hp:1<=p/\p<=66000):kG.pre (fZ.gV fn) fn (fZ.xV f b) p/\aGQ (kG.enc (fZ.gV fn) fn (fZ.xV f b) p) (vZ fn (fZ.xV f b)) p:=by
 obtain⟨⟨_,hb,h1,h2⟩,bBP⟩:=aOP h.fin;have ex:=h.ex;rw[<-bBP]at ex;generalize fZ.xV f b=x at *;have hx:0<=x/\x<18446744073709551616:=hb;have h1:0<x%9223372036854775808:=h1;have h2:x%9223372036854775808<9218868437227405312:=h2;have f1:=h.f1;have f6:=h.f6;unfold kG.pre kG.enc fZ.gV vZ
 by_cases c4:4<=fn
 ·rw[if_pos c4,if_pos c4];have ex:=ex c4;have h4:fn=4\/fn=5\/fn=6:=by omega
  have hf:cB.jD 64 x=true:=decide_eq_true h2;have hodd:=aZO.aPT (f:=64) (.inr rfl) hx.1 h1;have xB:rU.aXA fn x=false:=by
   unfold rU.aXA;rw[ex,beq_eq_false_iff_ne.2 (show(fQ.nY 64 x).1≠0 by omega)];rfl
  have pB:rU.aSU fn x=false:=by unfold rU.aSU;rw[ex,Bool.and_false,cAV]
  have N:=aIA (k:=dA.Bp (dA.rJ x)) (rU.aJS hx.1 hf h4 xB) hp h4;rw[if_neg (by decide)];refine⟨.inr ⟨rfl,⟨hx,h4,hp,hf⟩,pB⟩,?_⟩;unfold rU.aSK;rw[xB,cond_false];have m0:=N.bx.m0;have lo:=N.bx.lo;have hi:=N.bx.hi;exact⟨N.bx.pl,N.bx.ph,by unfold vT;grind,by unfold vT;grind,N.bx.wd,N.v0⟩
 ·rw[if_neg c4,if_neg c4,if_pos rfl];have c:fA.Tx fn x p=0:=by rw[aHU,aW,aW,aW,aW,if_pos h2]
  obtain⟨hr,hf,_,z⟩:=aPF hx c (by omega);refine⟨.inl ⟨rfl,hx,c⟩,?_⟩;rw[aMA c z];have N:=aXE (p:=p) hr hf hp;have m0:=N.bx.m0;have lo:=N.bx.lo;have hi:=N.bx.hi;have wd:=N.bx.wd;have pm:=R.cG (show -p-8<=-p-1 by omega);have mm:=R.aF (R.aM (R.fv fn (R.qz (aZ.qM x)) (kx x))) (show 0<=R.pz (-p-1)-R.pz (-p-8) by grind);exact⟨N.bx.pl,N.bx.ph,by unfold vx;grind,by unfold vx;grind,by unfold vx;grind,N.v0⟩
end W.Ziv
namespace W
open Go AI M
namespace rH
def E:=mE [(52,Ig.aJ),(67,uU.aJ),(15,jH.aJ)] 40 [26] [] []
def aE:=bd f127
theorem aX:Nk E aE:=nk
theorem start a b c d e f g:aH E f127 aE [D.s (sc (int i64 a)),D.agg [sc (bool b),ints u64 c,sc (int i64 d),sc (bool e),ints u64 f,sc (int i64 g)]]=letI A:=Ig.Ix a;aO True (aC A.snd.fst fun h=>aC A.snd.snd fun i=>aB (A.fst==0&&(h==0&&(i==0&&true))) (some [D.s (sc (int u64 0)),D.s (sc (bool false)),D.s (sc (int i64 1))]) (aO (eQ (b,c,d,e,f,g)) (aO ((a=32\/a=64)/\aQ (b,c,d)) (aC (jH.kT a (dv (b,c,d))) fun j=>aO ((a=32\/a=64)/\aQ (e,f,g)) (aC (jH.kT a (dv (e,f,g))) fun k=>aB (j !=k) (some [D.s (sc (int u64 0)),D.s (sc (bool false)),D.s (sc (int i64 0))]) (some [D.s (sc (int u64 j)),D.s (sc (bool true)),D.s (sc (int i64 0))])))))):=eJ aX
def aOL(f:Int)(s:(Int×Int)×(Int×Int)):Int×Bool:=if jH.kT f s.1=jH.kT f s.2 then(jH.kT f s.1,true)else(0,false)
def sp(f:Int)(s:wV):Prop×List D:=((f=32\/f=64)/\eQ s,[.s (.sc (.int .u64 (aOL f (dv (gZ s),dv (hI s))).1)),.s (.sc (.bool (aOL f (dv (gZ s),dv (hI s))).2)),.s (.sc (.int .i64 0))])
theorem spec:gT E f127 aE (pN .i64) yJ sp:=by
 rintro f s ⟨hf,hs⟩;refine(start f s.1 s.2.1 s.2.2.1 s.2.2.2.1 s.2.2.2.2.1 s.2.2.2.2.2).trans ?_;have h0:((Ig.Ix f).1==0)=false:=by rcases hf with rfl |rfl <;> rfl
 rw[gP trivial,aG,aG,h0,cAV,bF,gP hs,gP ⟨hf,hs.1⟩,aG,gP ⟨hf,hs.2.1⟩,aG];unfold sp aOL;dsimp only;show aB (jH.kT f (dv (gZ s)) !=jH.kT f (dv (hI s))) _ _=_
 by_cases c:jH.kT f (dv (gZ s))=jH.kT f (dv (hI s))
 ·rw[if_pos c,gG c];rfl
 ·rw[if_neg c,nC c]
def aJ:dK:=orc2 (pN .i64) yJ sp
theorem ok:OK 127 aJ:=(eZ E aE (aA Ig.ok (aA uU.ok (aA jH.ok aD))) func127).mT rfl spec
end rH
namespace yQ
def E:=mE [(126,kG.aJ),(127,rH.aJ)] 33 [23] [] []
def aE:=bd f74
theorem aX:Nk E aE:=nk
theorem start f g fn x p:aH E f74 aE [D.agg [sc (int i64 f),S.Sr (126:FuncId) [Value.func (Fn.func g) #[] #[],int i64 fn,int u64 x]],D.s (sc (int i64 p))]=letI A:=kG.enc g fn x p;aO (kG.pre g fn x p) (aC (isNeg A.fst.fst) fun a=>aC (M6.dg A.fst.fst.natAbs) fun b=>aC A.fst.snd fun c=>aC (isNeg A.snd.fst) fun d=>aC (M6.dg A.snd.fst.natAbs) fun e=>aC A.snd.snd fun h=>letI C:=(a,b,c,d,e,h);letI B:=rH.aOL f (dv (gZ C),dv (hI C));aO ((f=32\/f=64)/\eQ C) (aC B.fst fun i=>aC B.snd fun j=>aB j (some [D.s (sc (int u64 i)),D.s (sc (bool true))]) (some [D.s (sc (int u64 i)),D.s (sc (bool false))]))):=eJ aX
def dec(f:Int)(g:Nat)(fn x p:Int):Int×Bool:=rH.aOL f (kG.enc g fn x p)
def sp(q:Int×Nat×Int×Int)(p:Int):Prop×List D:=(kG.pre q.2.1 q.2.2.1 q.2.2.2 p/\(q.1=32\/q.1=64)/\eQ (mN (kG.enc q.2.1 q.2.2.1 q.2.2.2 p).1 (kG.enc q.2.1 q.2.2.1 q.2.2.2 p).2),[.s (.sc (.int .u64 (dec q.1 q.2.1 q.2.2.1 q.2.2.2 p).1)),.s (.sc (.bool (dec q.1 q.2.1 q.2.2.1 q.2.2.2 p).2))])
theorem fold(a b:Int×Int):(isNeg a.1,M6.dg a.1.natAbs,a.2,isNeg b.1,M6.dg b.1.natAbs,b.2)=mN a b:=rfl
theorem spec:gT E f74 aE (pG (.pair (sN .i64) (bAA 126 (lc vF (lc (vN .i64) (l1 (vN .u64))))))) (pN .i64) sp:=by
 intro q p h;obtain⟨f,g,fn,x⟩:=q;obtain⟨h1,h2,h3⟩:=h;refine(start f g fn x p).trans ?_;have h1:kG.pre g fn x p:=h1;unfold sp dec;dsimp only at *;rw[gP h1,aG,aG,aG,aG,aG,aG,fold,gP ⟨h2,h3⟩,oN,oO,aG,aG];show aB (rH.aOL f (kG.enc g fn x p)).2 _ _=_;cases (rH.aOL f (kG.enc g fn x p)).2 <;> rfl
def aJ:dK:=orc2 (pG (.pair (sN .i64) (bAA 126 (lc vF (lc (vN .i64) (l1 (vN .u64))))))) (pN .i64) sp
theorem ok:OK 74 aJ:=(eZ E aE (aA kG.ok (aA rH.ok aD)) func74).mT rfl spec
end yQ
namespace dP
def E:=mE [(71,iL.aJ),(72,nP.aJ),(73,fZ.aJ),(74,yQ.aJ)] 54 [21,38,49] [(4,[0,1,2,3,11,12])] [4]
def aE:=bd f27
theorem aX:Nk E aE:=nk
def J4 a b c d e f:=mD E f27 aE 4 [bP a,bP b,dC c,bP d,bP e,bP f]
theorem start a b c d:aH E f27 aE [D.s (sc (int i64 a)),D.s (sc (int i64 b)),D.s (sc (int u64 c)),D.s (sc (int i64 d))]=letI A:=dP.J4 a b c d (kI.zZ a c) 1;aO (0<=c/\c<18446744073709551616) (aB (decide (d<1)) A (aB (decide (66000<d)) A (dP.J4 a b c d (kI.zZ a c) (iL.vV a b c)))):=eJ aX
theorem Ci a b c d e f:J4 a b c d e f=letI F:=nP.Ui a b c e;letI A:=(a,fZ.gV b,b,fZ.xV a c);letI C:=kG.enc A.snd.fst A.snd.snd.fst A.snd.snd.snd d;letI B:=yQ.dec A.fst A.snd.fst A.snd.snd.fst A.snd.snd.snd d;aB (f !=0) (some [D.s (sc (int u64 0)),D.s (sc (bool false)),D.s (sc (int i64 f))]) (aO ((a=32\/a=64)/\0<=c/\c<18446744073709551616) (aC F.fst fun g=>aC F.snd fun h=>aB h (some [D.s (sc (int u64 g)),D.s (sc (bool true)),D.s (sc (int i64 0))]) (aO (0<=c/\c<18446744073709551616) (aO (kG.pre (fZ.gV b) b (fZ.xV a c) d/\(a=32\/a=64)/\eQ (mN C.fst C.snd)) (aC B.fst fun i=>aC B.snd fun j=>some [D.s (sc (int u64 i)),D.s (sc (bool j)),D.s (sc (int i64 0))]))))):=cJ aX
def Cv(f fn b p:Int):Int×Bool:=yQ.dec f (fZ.gV fn) fn (fZ.xV f b) p
def aRG(f fn b p:Int):Int:=if 1<=p/\p<=66000 then iL.vV f fn b else 1
def Xp(f fn b:Int):Int×Bool:=nP.Ui f fn b (kI.zZ f b)
def aGF(f fn b p:Int):Int×Bool:=if aRG f fn b p≠0 then(0,false)else bif (Xp f fn b).2 then((Xp f fn b).1,true)else Cv f fn b p
def sp(f fn b p:Int):Prop×List D:=(0<=b/\b<18446744073709551616,[.s (.sc (.int .u64 (aGF f fn b p).1)),.s (.sc (.bool (aGF f fn b p).2)),.s (.sc (.int .i64 (aRG f fn b p)))])
theorem spec:Om E f27 aE (pN .i64) (pN .i64) (pN .u64) (pN .i64) sp:=by
 intro f fn b p h;have hb:0<=b/\b<18446744073709551616:=h;refine(start f fn b p).trans ((gP hb).trans ?_);have j1:∀e:Int,e≠0->J4 f fn b p (kI.zZ f b) e=some [.s (.sc (.int .u64 0)),.s (.sc (.bool false)),.s (.sc (.int .i64 e))]:=fun e he=>by rw[Ci,nC he]
 unfold sp aGF aRG;dsimp only
 by_cases hp:1<=p/\p<=66000
 ·rw[aL,aL,if_pos hp]
  by_cases he:iL.vV f fn b=0
  ·obtain⟨hf,_⟩:=Ziv.Zu he;rw[aW,Ci,he,gG rfl,gP ⟨hf,hb⟩,aG,aG];unfold Xp;cases hs:(nP.Ui f fn b (kI.zZ f b)).2 with
   |true=>rfl
   |false =>
    obtain⟨h1,h2⟩:=Ziv.xQ (Ziv.aJP hb he hs) hp;rw[bF,gP hb,gP ⟨h1,hf,h2.zA⟩,aG,aG];rfl
  ·rw[j1 _ he,if_pos he]
 ·rw[if_neg hp,aU]
  by_cases zS:p<1
  ·rw[aP zS,j1 _ (by decide)]
  ·rw[aL zS,aP,j1 _ (by decide)]
def aJ:dK:=orc4 (pN .i64) (pN .i64) (pN .u64) (pN .i64) sp
theorem ok:OK 27 aJ:=(eZ E aE (aA iL.ok (aA nP.ok (aA fZ.ok (aA yQ.ok aD)))) func27).aOE rfl spec
end dP
namespace IvClimb
open Go.RowKit Go.Shelf
attribute [local go_sem] Oper.semAt_some
theorem one{W:World}{B:Nat}{v:Value}{t:TypeId}(h:W.heap[B]?=some (.cells #[v] t (0,0))):W.cell? ⟨B,0,none⟩=some v/\W.frozen? ⟨B,0,none⟩=false:=by
 constructor <;> simp[World.cell?,World.frozen?,h]
theorem three{W:World}{B:Nat}{u v x:Value}{t:TypeId}(h:W.heap[B]?=some (.cells #[u,v,x] t (0,0))):W.cell? ⟨B,0,none⟩=some u/\W.cell? ⟨B,1,none⟩=some v/\W.cell? ⟨B,2,none⟩=some x/\W.frozen? ⟨B,0,none⟩=false/\W.frozen? ⟨B,1,none⟩=false/\W.frozen? ⟨B,2,none⟩=false:=by
 refine⟨?_,?_,?_,?_,?_,?_⟩ <;> simp[World.cell?,World.frozen?,h]
theorem bHI(n:Nat){f fn b E:Int}(hb:0<=b/\b<18446744073709551616)(he:iL.vV f fn b=E){w:World}(hG:GlobOk base.glob O0 w):∀w',Below w.heap.size w w'->CallsIn Fence.wide n prog 71 #[.int .i64 f,.int .i64 fn,.int .u64 b] w' fun e w2=>e=.returned (.tuple #[.int .i64 (kI.zZ f b),.int .i64 E])/\Below w'.heap.size w' w2:=fun w' uZ =>
 callsIn_wide.2 (by have c:=El iL.ok (xs:=[.int .i64 f,.int .i64 fn,.int .u64 b]) (ys:=[.int .i64 (kI.zZ f b),.int .i64 (iL.vV f fn b)]) rfl hb (qJ hG uZ) (by simp[Value.oneCell']);rw[he]at c;exact c)
theorem bHH(n:Nat){s l:Int}{B:Bool}(hl:fO.xM s l=B){w:World}(hG:GlobOk base.glob O0 w):∀w',Below w.heap.size w w'->CallsIn Fence.wide n prog 75 #[.int .i64 s,.int .i64 l] w' fun e w2=>e=.returned (.bool B)/\Below w'.heap.size w' w2:=fun w' uZ =>
 callsIn_wide.2 (by have c:=El fO.ok (xs:=[.int .i64 s,.int .i64 l]) (ys:=[.bool (fO.xM s l)]) rfl trivial (qJ hG uZ) (by simp[Value.oneCell']);rw[hl]at c;exact c)
theorem bMD(n:Nat){f fn b:Int}{B:Bool}(hb:0<=b/\b<18446744073709551616)(he:iL.vV f fn b=0)(hs:(dP.Xp f fn b).2=B){w:World}(hG:GlobOk base.glob O0 w):∀w',Below w.heap.size w w'->CallsIn Fence.wide n prog 72 #[.int .i64 f,.int .i64 fn,.int .u64 b,.int .i64 (kI.zZ f b)] w' fun e w2=>e=.returned (.tuple #[.int .u64 (dP.Xp f fn b).1,.bool B])/\Below w'.heap.size w' w2:=fun w' uZ =>
 callsIn_wide.2 (by have c:=El nP.ok (xs:=[.int .i64 f,.int .i64 fn,.int .u64 b,.int .i64 (kI.zZ f b)]) (ys:=[.int .u64 (dP.Xp f fn b).1,.bool (dP.Xp f fn b).2]) rfl ⟨(Ziv.Zu he).1,hb⟩ (qJ hG uZ) (by simp[Value.oneCell']);rw[hs]at c;exact c)
theorem opened(w:World):∃W2,(w.alloc (.cells #[.int .u64 0,.bool false,.int .i64 0] 62)).alloc (.cells #[.int .i64 0] 30)=W2/\Below w.heap.size w W2/\W2.heap.size=w.heap.size+2/\W2.heap[w.heap.size]?=some (.cells #[.int .u64 0,.bool false,.int .i64 0] 62 (0,0))/\W2.heap[w.heap.size+1]?=some (.cells #[.int .i64 0] 30 (0,0)):=by
 refine⟨_,rfl,((Below.refl _ w).alloc (bVO _) _).alloc (by simp) _,by simp,(Below.heap_alloc _ _ _ (by simp)).trans (World.alloc_heap_new w _),?_⟩;have:=World.alloc_heap_new (w.alloc (.cells #[.int .u64 0,.bool false,.int .i64 0] 62)) (.cells #[.int .i64 0] 30);simpa using this
set_option maxRecDepth 100000 in
set_option maxHeartbeats 4000000 in
theorem bad (f fn b s l:Int) (hb:0<=b/\b<18446744073709551616) (he:(if fO.xM s l then iL.vV f fn b else 1)≠0) {w:World} (hG:GlobOk base.glob O0 w):Calls prog 28 #[.int .i64 f,.int .i64 fn,.int .u64 b,.int .i64 s,.int .i64 l] w fun e w'=>e=.returned (.tuple #[.agg #[.int .u64 0,.bool false,.int .i64 0],.int .i64 (if fO.xM s l then iL.vV f fn b else 1)])/\Below w.heap.size w w':=by
 refine(callsIn_wide (n:=1)).1 ?_;refine callsIn_of_wp func28 rfl trivial ?_ rfl;simp only[Tryz.ntmps28,bXE,bYZ,bZA,cBJ,cBK,Array.replicate_succ,Array.replicate_zero,cBL,cBM,bZR,bXH];have aZK:=bHI 0 (f:=f) (fn:=fn) hb rfl hG;have aWT:=bHH 0 (s:=s) (l:=l) rfl hG;obtain⟨W2,bFR,aDH,z2,r1,r2⟩:=opened w;cases hl:fO.xM s l with
 |true =>
  rw[hl,if_pos rfl]at he;rw[if_pos rfl];have yT:(iL.vV f fn b==0)=false:=beq_eq_false_iff_ne.2 he
  gi_wp2_with (refine⟨trivial,?_⟩;first | (gi_at_call 71;refine(aZK _ aDH).mono ?_;rintro e w3 ⟨rfl,Bs⟩;have aLL:Below w.heap.size w w3:=aDH.trans (Bs.mono (by omega))) | (gi_at_call 75;refine(aWT _ aLL).mono ?_;rintro e w4 ⟨rfl,Vx⟩;have bHM:=Bs.size;have aQV:Below w.heap.size w w4:=aLL.trans (Vx.mono (by omega));obtain⟨c1,c2,c3,k1,k2,k3⟩:=three (((Vx.block _ (by omega)).trans (Bs.block _ (by omega))).trans r1);obtain⟨c4,k4⟩:=one (((Vx.block _ (by omega)).trans (Bs.block _ (by omega))).trans r2)))
  refine⟨rfl,.tuple #[.agg #[.int .u64 0,.bool false,.int .i64 0],.int .i64 (iL.vV f fn b)],by simp[results,f28,go_sem,c1,c2,c3,c4],rfl,?_⟩;refine((((aQV.setCell ?_ _).setCell ?_ _).setCell ?_ _).setCell ?_ _) <;> first |exact bVO _ |exact cIP _
 |false =>
  rw[if_neg (by decide)]
  gi_wp2_with (refine⟨trivial,?_⟩;first | (gi_at_call 71;refine(aZK _ aDH).mono ?_;rintro e w3 ⟨rfl,Bs⟩;have aLL:Below w.heap.size w w3:=aDH.trans (Bs.mono (by omega))) | (gi_at_call 75;refine(aWT _ aLL).mono ?_;rintro e w4 ⟨rfl,Vx⟩;have bHM:=Bs.size;have aQV:Below w.heap.size w w4:=aLL.trans (Vx.mono (by omega));obtain⟨c1,c2,c3,k1,k2,k3⟩:=three (((Vx.block _ (by omega)).trans (Bs.block _ (by omega))).trans r1);obtain⟨c4,k4⟩:=one (((Vx.block _ (by omega)).trans (Bs.block _ (by omega))).trans r2)))
  refine⟨rfl,.tuple #[.agg #[.int .u64 0,.bool false,.int .i64 0],.int .i64 1],by simp[results,f28,go_sem,c1,c2,c3,c4],rfl,?_⟩;refine((((aQV.setCell ?_ _).setCell ?_ _).setCell ?_ _).setCell ?_ _) <;> first |exact bVO _ |exact cIP _
abbrev ptr(b o:Nat):Value:=.pointer (some ⟨b,o,none⟩)
structure aOM(fn x:Int)(g b1 o1 b2 o2 b3 o3:Nat)(W:World):Prop where
 c1:W.cell? ⟨b1,o1,none⟩=some (.func (.func g) #[] #[])
 c2:W.cell? ⟨b2,o2,none⟩=some (.int .i64 fn)
 c3:W.cell? ⟨b3,o3,none⟩=some (.int .u64 x)
theorem Vh{W:World}{b o:Nat}{v:Value}(h:W.cell? ⟨b,o,none⟩=some v):b<W.heap.size:=by
 obtain⟨ob,h1,_⟩:=cells_of_cell h;exact(Array.getElem?_eq_some_iff.1 h1).1
theorem aOM.rep{fn x:Int}{g b1 o1 b2 o2 b3 o3:Nat}{W:World}(h:aOM fn x g b1 o1 b2 o2 b3 o3 W):nO O0 W (.Sr 126 [.func (.func g) #[] #[],.int .i64 fn,.int .u64 x]) (.func (.func 126) #[] #[ptr b1 o1,ptr b2 o2,ptr b3 o3]):=by
 refine⟨[ptr b1 o1,ptr b2 o2,ptr b3 o3],rfl,rfl,fun i x p hx hp=>?_⟩
 match i with
 |0=>cases hx;cases hp;exact⟨rfl,b1,o1,rfl,Vh h.c1,id,h.c1⟩
 |1=>cases hx;cases hp;exact⟨rfl,b2,o2,rfl,Vh h.c2,id,h.c2⟩
 |2=>cases hx;cases hp;exact⟨rfl,b3,o3,rfl,Vh h.c3,id,h.c3⟩
 |i+3=>simp at hx
theorem bAG(f fn b:Int)(hb:0<=b/\b<18446744073709551616){w:World}(hG:GlobOk base.glob O0 w):Calls prog 73 #[.int .i64 f,.int .i64 fn,.int .u64 b] w fun e w'=>∃b1 o1 b2 o2 b3 o3,e=.returned (.agg #[.int .i64 f,.func (.func 126) #[] #[ptr b1 o1,ptr b2 o2,ptr b3 o3]])/\Below w.heap.size w w'/\aOM fn (fZ.xV f b) (fZ.gV fn) b1 o1 b2 o2 b3 o3 w':=by
 refine(Mg fZ.ok (ds:=[Ng (.int .i64 f),Ng (.int .i64 fn),Ng (.int .u64 b)]) (vs:=[.int .i64 f,.int .i64 fn,.int .u64 b]) rfl hb hG rfl (fun i d v hd hv=>?_)).mono ?_
 ·match i with
  |0=>cases hd;cases hv;exact⟨rfl,rfl⟩
  |1=>cases hd;cases hv;exact⟨rfl,rfl⟩
  |2=>cases hd;cases hv;exact⟨rfl,rfl⟩
  |i+3=>simp at hd
 ·rintro e w' ⟨tK,rfl,Jd,g,aKY,-,aHG⟩
  match tK,aKY with
  | [v],_ =>
   have a1:lL _ w' (.agg [.sc (.int .i64 f),.Sr 126 [.func (.func (fZ.gV fn)) #[] #[],.int .i64 fn,.int .u64 (fZ.xV f b)]]) v:=aHG 0 _ v rfl rfl;obtain⟨arr,rfl,hl,hc⟩:=a1.later Mk;obtain⟨q1,q2,he⟩:∃q1 q2,arr.toList=[q1,q2]:=by
    match hh:arr.toList,hl with
    | [q1,q2],_=>exact⟨q1,q2,rfl⟩
   rw[he]at hc;have h0:=(hc 0 _ _ rfl rfl).1;obtain⟨ps,hv,Pl,Gf⟩:=hc 1 _ _ rfl rfl
   match ps,Pl with
   | [p1,p2,p3],_ =>
    obtain⟨_,b1,o1,rfl,_,_,k1⟩:=Gf 0 _ _ rfl rfl;obtain⟨_,b2,o2,rfl,_,_,k2⟩:=Gf 1 _ _ rfl rfl;obtain⟨_,b3,o3,rfl,_,_,k3⟩:=Gf 2 _ _ rfl rfl;refine⟨b1,o1,b2,o2,b3,o3,?_,Jd,k1,k2,k3⟩;have:arr=#[q1,q2]:=by rw[<-he]
    rw[this,h0,hv];rfl
theorem aRN(f fn x p:Int){g b1 o1 b2 o2 b3 o3:Nat}{w:World}(h:aOM fn x g b1 o1 b2 o2 b3 o3 w)(hp:(yQ.sp (f,g,fn,x) p).1)(hG:GlobOk base.glob O0 w):Calls prog 74 #[.agg #[.int .i64 f,.func (.func 126) #[] #[ptr b1 o1,ptr b2 o2,ptr b3 o3]],.int .i64 p] w fun e w'=>e=.returned (.tuple #[.int .u64 (yQ.dec f g fn x p).1,.bool (yQ.dec f g fn x p).2])/\Below w.heap.size w w':=by
 refine(Mg yQ.ok (ds:=[.agg [.sc (.int .i64 f),.Sr 126 [.func (.func g) #[] #[],.int .i64 fn,.int .u64 x]],Ng (.int .i64 p)]) (vs:=[.agg #[.int .i64 f,.func (.func 126) #[] #[ptr b1 o1,ptr b2 o2,ptr b3 o3]],.int .i64 p]) rfl hp hG rfl (fun i d v hd hv=>?_)).mono ?_
 ·match i with
  |0 =>
   cases hd;cases hv;refine⟨_,rfl,rfl,fun j s u hs hu=>?_⟩
   match j with
   |0=>cases hs;cases hu;exact⟨rfl,rfl⟩
   |1=>cases hs;cases hu;exact h.rep
   |j+2=>simp at hs
  |1=>cases hd;cases hv;exact⟨rfl,rfl⟩
  |i+2=>simp at hd
 ·rintro e w' ⟨tK,rfl,Jd,g',aKY,-,aHG⟩
  match tK,aKY with
  | [v1,v2],_ =>
   have a1:=aHG 0 _ v1 rfl rfl;have a2:=aHG 1 _ v2 rfl rfl;rw[a1.1,a2.1];exact⟨rfl,Jd⟩
set_option maxRecDepth 100000 in
set_option maxHeartbeats 4000000 in
theorem aOZ (f fn b s l:Int) (hb:0<=b/\b<18446744073709551616) (hl:fO.xM s l=true) (he:iL.vV f fn b=0) (hs:(dP.Xp f fn b).2=true) {w:World} (hG:GlobOk base.glob O0 w):Calls prog 28 #[.int .i64 f,.int .i64 fn,.int .u64 b,.int .i64 s,.int .i64 l] w fun e w'=>e=.returned (.tuple #[.agg #[.int .u64 (dP.Xp f fn b).1,.bool true,.int .i64 0],.int .i64 0])/\Below w.heap.size w w':=by
 refine(callsIn_wide (n:=1)).1 ?_;refine callsIn_of_wp func28 rfl trivial ?_ rfl;simp only[Tryz.ntmps28,bXE,bYZ,bZA,cBJ,cBK,Array.replicate_succ,Array.replicate_zero,cBL,cBM,bZR,bXH];have aZK:=bHI 0 hb he hG;have aWT:=bHH 0 hl hG;have bKM:=bMD 0 hb he hs hG;obtain⟨W2,bFR,aDH,z2,r1,r2⟩:=opened w
 gi_wp2_with (refine⟨trivial,?_⟩;first
  | (gi_at_call 71;refine(aZK _ aDH).mono ?_;rintro e w3 ⟨rfl,Bs⟩;have bQO:=Bs.size;have aLL:Below w.heap.size w w3:=aDH.trans (Bs.mono (by omega)))
  | (gi_at_call 75;refine(aWT _ aLL).mono ?_;rintro e w4 ⟨rfl,Vx⟩;have bHM:=Vx.size;have aQV:Below w.heap.size w w4:=aLL.trans (Vx.mono (by omega)))
  | (gi_at_call 72;refine(bKM _ aQV).mono ?_;rintro e w5 ⟨rfl,aQS⟩;have bQN:=aQS.size;have bFX:Below w.heap.size w w5:=aQV.trans (aQS.mono (by omega));obtain⟨c1,c2,c3,k1,k2,k3⟩:=three ((((aQS.block _ (by omega)).trans (Vx.block _ (by omega))).trans (Bs.block _ (by omega))).trans r1);obtain⟨c4,k4⟩:=one ((((aQS.block _ (by omega)).trans (Vx.block _ (by omega))).trans (Bs.block _ (by omega))).trans r2)))
 refine⟨rfl,.tuple #[.agg #[.int .u64 (dP.Xp f fn b).1,.bool true,.int .i64 0],.int .i64 0],by simp[results,f28,go_sem,c1,c2,c3,c4],rfl,?_⟩;refine((((bFX.setCell ?_ _).setCell ?_ _).setCell ?_ _).setCell ?_ _) <;> first |exact bVO _ |exact cIP _
def first(f fn b:Int):List Int->Option Int
 | []=>none
 |r :: rs=>bif (dP.Cv f fn b r).2 then some r else first f fn b rs
def Tc(f fn b s l:Int):Int×Bool×Int:=match first f fn b (IvLadder.rungsF 17 s l)with
 |some r=>((dP.Cv f fn b r).1,true,r)
 |none=>(0,false,0)
theorem Lv{f fn b:Int}:∀{rs:List Int},(∀r∈rs,(dP.Cv f fn b r).2=false)->first f fn b rs=none
 | [],_=>rfl
 |r :: rs,h=>by unfold first;rw[h r (by simp),cond_false];exact Lv fun r hr=>h r (by simp[hr])
theorem Lu{f fn b r:Int}:∀{pre rs:List Int},(∀r∈pre,(dP.Cv f fn b r).2=false)->(dP.Cv f fn b r).2=true->first f fn b (pre ++ r :: rs)=some r
 | [],rs,_,h=>by show first f fn b (r :: rs)=_;unfold first;rw[h,cond_true]
 |p :: pre,rs,hp,h=>by
  show first f fn b (p :: (pre ++ r :: rs))=_
  unfold first
  rw[hp p (by simp),cond_false];exact Lu (fun r hr=>hp r (by simp[hr])) h
structure Ye(n0:Nat)(x y z e:Value)(W:World):Prop where
 c1:W.cell? ⟨n0,0,none⟩=some x
 c2:W.cell? ⟨n0,1,none⟩=some y
 c3:W.cell? ⟨n0,2,none⟩=some z
 c4:W.cell? ⟨n0+1,0,none⟩=some e
 k1:W.frozen? ⟨n0,0,none⟩=false
 k2:W.frozen? ⟨n0,1,none⟩=false
 k3:W.frozen? ⟨n0,2,none⟩=false
 k4:W.frozen? ⟨n0+1,0,none⟩=false
theorem Ye.kept{n0:Nat}{x y z e:Value}{W W':World}{row:Option Nat}(h:Ye n0 x y z e W)(hg:W.grownBy W' row)(hr:∀r,row=some r->∃o:Obj,W.heap[r]?=some o/\o.isCells=false):Ye n0 x y z e W' :=
 ⟨cell_kept h.c1 hg hr,cell_kept h.c2 hg hr,cell_kept h.c3 hg hr,cell_kept h.c4 hg hr,(frozen_kept h.c1 hg hr).trans h.k1,(frozen_kept h.c2 hg hr).trans h.k2,(frozen_kept h.c3 hg hr).trans h.k3,(frozen_kept h.c4 hg hr).trans h.k4⟩
theorem Ye.below{n0:Nat}{x y z e:Value}{W W':World}(h:Ye n0 x y z e W)(hb:Below W.heap.size W W'):Ye n0 x y z e W':=h.kept (row:=none) ⟨hb.os,hb.tape,hb.output,hb.size,fun k hk _=>hb.block k hk⟩ (fun r e=>by cases e)
theorem aGW(W:World)(a c:Addr)(v:Value)(h:a≠c):(W.setCell a v).cell? c=W.cell? c:=by
 first |exact World.cell?_setCell_other W a v c h |exact World.cell?_setCell_other W a c v h
theorem Ye.put{n0:Nat}{x y z e:Value}{W:World}(h:Ye n0 x y z e W)(x' y' z' e':Value):Ye n0 x' y' z' e' ((((W.setCell ⟨n0,0,none⟩ x').setCell ⟨n0,1,none⟩ y').setCell ⟨n0,2,none⟩ z').setCell ⟨n0+1,0,none⟩ e'):=by
 obtain⟨c1,c2,c3,c4,k1,k2,k3,k4⟩:=h;refine⟨?_,?_,?_,?_,by simp[k1],by simp[k2],by simp[k3],by simp[k4]⟩
 ·rw[aGW _ _ _ _ (by simp),aGW _ _ _ _ (by simp),aGW _ _ _ _ (by simp)];exact World.cell?_setCell_same' _ _ _ (by rw[c1];rfl)
 ·rw[aGW _ _ _ _ (by simp),aGW _ _ _ _ (by simp)];exact World.cell?_setCell_same' _ _ _ (by rw[aGW _ _ _ _ (by simp),c2];rfl)
 ·rw[aGW _ _ _ _ (by simp)];exact World.cell?_setCell_same' _ _ _ (by rw[aGW _ _ _ _ (by simp),aGW _ _ _ _ (by simp),c3];rfl)
 ·exact World.cell?_setCell_same' _ _ _ (by rw[aGW _ _ _ _ (by simp),aGW _ _ _ _ (by simp),aGW _ _ _ _ (by simp),c4];rfl)
theorem Ye.out{n0:Nat}{x y z e:Value}{W:World}(h:Ye n0 x y z e W)(tmps:Array Value)(h1:tmps[10]?=some (.pointer (some ⟨n0,0,none⟩)))(h2:tmps[11]?=some (.pointer (some ⟨n0+1,0,none⟩))):(results f28 tmps).run prog W=.ok (.tuple #[.agg #[x,y,z],e]) W:=by
 obtain⟨c1,c2,c3,c4,_⟩:=h;simp[results,f28,go_sem,c1,c2,c3,c4,Array.getD_eq_getD_getElem?,h1,h2]
theorem Ft{B n0:Nat}{A W:World}(h:Below B A W)(hB:B<=n0)(x y z e:Value):Below B A ((((W.setCell ⟨n0,0,none⟩ x).setCell ⟨n0,1,none⟩ y).setCell ⟨n0,2,none⟩ z).setCell ⟨n0+1,0,none⟩ e) :=
 (((h.setCell (p:=⟨n0,0,none⟩) hB _).setCell (p:=⟨n0,1,none⟩) hB _).setCell (p:=⟨n0,2,none⟩) hB _).setCell (p:=⟨n0+1,0,none⟩) (Nat.le_succ_of_le hB) _
theorem Pb(n0:Nat)(W:World)(x y z e:Value):KeepsOthers W ((((W.setCell ⟨n0,0,none⟩ x).setCell ⟨n0,1,none⟩ y).setCell ⟨n0,2,none⟩ z).setCell ⟨n0+1,0,none⟩ e) :=
 (((KeepsOthers.setCell _ _ _).trans (KeepsOthers.setCell _ _ _)).trans (KeepsOthers.setCell _ _ _)).trans (KeepsOthers.setCell _ _ _)
theorem aOM.kept{fn x:Int}{g b1 o1 b2 o2 b3 o3:Nat}{W W':World}{row:Option Nat}(h:aOM fn x g b1 o1 b2 o2 b3 o3 W)(hg:W.grownBy W' row)(hr:∀r,row=some r->∃o:Obj,W.heap[r]?=some o/\o.isCells=false):aOM fn x g b1 o1 b2 o2 b3 o3 W' :=
 ⟨cell_kept h.c1 hg hr,cell_kept h.c2 hg hr,cell_kept h.c3 hg hr⟩
set_option maxRecDepth 100000 in
set_option maxHeartbeats 8000000 in
theorem aXL (f fn b s l:Int) (hb:0<=b/\b<18446744073709551616) (hl:fO.xM s l=true) (he:iL.vV f fn b=0) (hs:(dP.Xp f fn b).2=false) {w:World} (hG:GlobOk base.glob O0 w):Calls prog 28 #[.int .i64 f,.int .i64 fn,.int .u64 b,.int .i64 s,.int .i64 l] w fun e w'=>e=.returned (.tuple #[.agg #[.int .u64 (Tc f fn b s l).1,.bool (Tc f fn b s l).2.1,.int .i64 (Tc f fn b s l).2.2],.int .i64 0])/\Below w.heap.size w w':=by
 refine(callsIn_wide (n:=3)).1 ?_;refine callsIn_of_wp_marks func28 rfl trivial ?_ rfl;simp only[Tryz.ntmps28,bXE,bYZ,bZA,cBJ,cBK,Array.replicate_succ,Array.replicate_zero,cBL,cBM,bZR,bXH];have aZK:=bHI 2 hb he hG;have aWT:=bHH 2 hl hG;have bKM:=bMD 2 hb he hs hG;have bUG:∀w',Below w.heap.size w w'->CallsIn Fence.wide 2 prog 73 #[.int .i64 f,.int .i64 fn,.int .u64 b] w' fun e w2=>∃b1 o1 b2 o2 b3 o3,e=.returned (.agg #[.int .i64 f,.func (.func 126) #[] #[ptr b1 o1,ptr b2 o2,ptr b3 o3]])/\Below w'.heap.size w' w2/\aOM fn (fZ.xV f b) (fZ.gV fn) b1 o1 b2 o2 b3 o3 w2:=fun w' uZ =>
  callsIn_wide.2 (bAG f fn b hb (qJ hG uZ))
 have aCV:∀(a:Addr) (W:World) (v:Value) (x:Fn) (y z:Array Value),W.cell? a=some v->W.frozen? a=false->(store a (.func x y z)).run prog W=.ok () (W.setCell a (.func x y z)):=fun a W v x y z h1 h2=>by
  rw[run_store _ _ _ _ _ rfl,h1,h2];rfl
 obtain⟨W2,bFR,aDH,z2,r1,r2⟩:=opened w
 gi_wp2_with (refine⟨trivial,?_⟩;first
  | (gi_at_call 71;refine(aZK _ aDH).mono ?_;rintro e w3 ⟨rfl,Bs⟩;have bQO:=Bs.size;have aLL:Below w.heap.size w w3:=aDH.trans (Bs.mono (by omega)))
  | (gi_at_call 75;refine(aWT _ aLL).mono ?_;rintro e w4 ⟨rfl,Vx⟩;have bHM:=Vx.size;have aQV:Below w.heap.size w w4:=aLL.trans (Vx.mono (by omega)))
  | (gi_at_call 72;refine(bKM _ aQV).mono ?_;rintro e w5 ⟨rfl,aQS⟩;have bQN:=aQS.size;have bFX:Below w.heap.size w w5:=aQV.trans (aQS.mono (by omega)))
  | (gi_at_call 73;refine(bUG _ bFX).mono ?_;rintro e w6 ⟨b1,o1,b2,o2,b3,o3,rfl,bFM,aWL⟩;have hz6:=bFM.size;have bUF:Below w.heap.size w w6:=bFX.trans (bFM.mono (by omega));obtain⟨c1,c2,c3,k1,k2,k3⟩:=three (((((bFM.block _ (by omega)).trans (aQS.block _ (by omega))).trans (Vx.block _ (by omega))).trans (Bs.block _ (by omega))).trans r1);obtain⟨c4,k4⟩:=one (((((bFM.block _ (by omega)).trans (aQS.block _ (by omega))).trans (Vx.block _ (by omega))).trans (Bs.block _ (by omega))).trans r2))
  | (gi_at_call 70;refine(callsIn_wide.2 (IvLadder.make _ s l)).mono ?_;rintro e w7 ⟨rfl,rfl⟩))
 have Lh:1<=s/\s<=l/\l<=66000:=of_decide_eq_true hl;have aQI:=Ziv.aJP hb he hs;have hf:=aQI.fin.1;have bIJ:∀x:IvLadder.Bu,(yQ.sp (f,fZ.gV fn,fn,fZ.xV f b) x.1).1:=fun x=>by
  obtain⟨h1,h2⟩:=Ziv.xQ aQI x.2;exact⟨h1,hf,h2.zA⟩
 obtain⟨W7,bFQ⟩:∃W7,w6.alloc (.cells #[.int .i64 f,.func (.func 126) #[] #[ptr b1 o1,ptr b2 o2,ptr b3 o3]] 129)=W7:=⟨_,rfl⟩;obtain⟨W8,bDB⟩:∃W8,(W7.alloc (.cells #[.int .i64 s] 3)).alloc (.cells #[.int .i64 l] 3)=W8:=⟨_,rfl⟩;rw[bFQ,bDB];have z7:W7.heap.size=w6.heap.size+1:=by rw[<-bFQ];simp
 have z8:W8.heap.size=w6.heap.size+3:=by rw[<-bDB];simp[z7]
 have bJU:Below w6.heap.size w6 W7:=by rw[<-bFQ];exact(Below.refl _ _).alloc (bVO _) _
 have bCY:Below W7.heap.size W7 W8:=by rw[<-bDB];exact((Below.refl _ _).alloc (bVO _) _).alloc (by simp) _
 have Zo:Below w6.heap.size w6 W8:=bJU.trans (bCY.mono (by omega));have bOE:Below w.heap.size w W8:=bUF.trans (Zo.mono (by omega));have q7:W7.heap[w6.heap.size]?=some (.cells #[.int .i64 f,.func (.func 126) #[] #[ptr b1 o1,ptr b2 o2,ptr b3 o3]] 129 (0,0)):=by rw[<-bFQ];exact World.alloc_heap_new _ _
 have q8:W8.heap[w6.heap.size]?=some (.cells #[.int .i64 f,.func (.func 126) #[] #[ptr b1 o1,ptr b2 o2,ptr b3 o3]] 129 (0,0)):=(bCY.block _ (by omega)).trans q7;have p1:W8.cell? ⟨w6.heap.size,0,none⟩=some (.int .i64 f):=by simp[World.cell?,q8]
 have p2:W8.cell? ⟨w6.heap.size,1,none⟩=some (.func (.func 126) #[] #[ptr b1 o1,ptr b2 o2,ptr b3 o3]):=by simp[World.cell?,q8]
 have s1:W8.cell? ⟨W7.heap.size,0,none⟩=some (.int .i64 s):=by rw[<-bDB,World.cell?_alloc_past _ _ _ (by simp)];simp
 have s2:W8.cell? ⟨W7.heap.size+1,0,none⟩=some (.int .i64 l):=by rw[<-bDB];simp[World.cell?_alloc_at]
 rw[z7]at s1 s2;have Ru:Ye w.heap.size (.int .u64 0) (.bool false) (.int .i64 0) (.int .i64 0) W8:=Ye.below ⟨c1,c2,c3,c4,k1,k2,k3,k4⟩ Zo;have bCR:aOM fn (fZ.xV f b) (fZ.gV fn) b1 o1 b2 o2 b3 o3 W8:=aWL.kept (row:=none) ⟨Zo.os,Zo.tape,Zo.output,Zo.size,fun k hk _=>Zo.block k hk⟩ (fun r e=>by cases e);refine wpIn_rangeFunc_ownF rfl (by omega) (gf:=124) (lb:=#[.pointer (some ⟨w6.heap.size+1,0,none⟩),.pointer (some ⟨w6.heap.size+1+1,0,none⟩)]) rfl trivial (enters_of func124 (by kernel_rfl) rfl)
  (IvLadder.stops Fence.wide (3-1) trivial trivial rfl (by omega) (w6.heap.size+1) W8.heap.size s l ⟨Lh.1,by omega⟩ Lh.2.2 Lh.2.1 W8 (fun w' aTH=>callsIn_wide.2 (callsIn_wide.1 (aWT w' (bOE.trans (aTH.mono (by omega)))))) (by omega) (bVO _) s1 s2) belowK_t (belowK_b (bVO _)) (Below.refl _ _) (fun _=>rfl)
  (fun pre W=>((∀r∈pre,(dP.Cv f fn b r.1).2=false)/\Ye w.heap.size (.int .u64 0) (.bool false) (.int .i64 0) (.int .i64 0) W/\W.cell? ⟨w6.heap.size,0,none⟩=some (.int .i64 f)/\W.cell? ⟨w6.heap.size,1,none⟩=some (.func (.func 126) #[] #[ptr b1 o1,ptr b2 o2,ptr b3 o3])/\aOM fn (fZ.xV f b) (fZ.gV fn) b1 o1 b2 o2 b3 o3 W/\W8.heap.size<=W.heap.size)/\Below w.heap.size w W)
  (fun c pre W=>(c=.ret/\∃(r:IvLadder.Bu) (init:List IvLadder.Bu),pre=init ++ [r]/\(∀r∈init,(dP.Cv f fn b r.1).2=false)/\(dP.Cv f fn b r.1).2=true/\Ye w.heap.size (.int .u64 (dP.Cv f fn b r.1).1) (.bool true) (.int .i64 r.1) (.int .i64 0) W)/\Below w.heap.size w W)
  (OwnFrom.and (Own.from (fun t A B row hs hg hr=>⟨hs.1,hs.2.1.kept hg hr,cell_kept hs.2.2.1 hg hr,cell_kept hs.2.2.2.1 hg hr,hs.2.2.2.2.1.kept hg hr,bWK hs.2.2.2.2.2 hg.size⟩) _) (ownFrom_below (bVO _) (by omega)))
  (fun c=>OwnFrom.and (Own.from (fun t A B row hs hg hr=>by obtain⟨h1,r,init,h2,h3,h4,h5⟩:=hs;exact⟨h1,r,init,h2,h3,h4,h5.kept hg hr⟩) _) (ownFrom_below (bVO _) (by omega)))
  ⟨⟨(fun r h=>by cases h),Ru,p1,p2,bCR,bVO _⟩,bOE⟩ ?a₁ ?assign ?body ?done ?stop
 case assign =>
  intro k x W K hK
  gi_wp2
  exact hK
 case body =>
  rintro k pre x W ⟨⟨aYX,hR,zS,vQ,hC,hZ⟩,hB⟩ _;have bKK:GlobOk base.glob O0 W:=qJ hG hB;have bDI:=aRN f fn (fZ.xV f b) x.1 hC (bIJ x) bKK;have ez:yQ.dec f (fZ.gV fn) fn (fZ.xV f b) x.1=dP.Cv f fn b x.1:=rfl;rw[ez]at bDI;have sF:=hB.size;have Br:=Vh hR.c1;have Zh:=Vh hR.c4;cases hd:(dP.Cv f fn b x.1).2 with
  |false =>
   rw[hd]at bDI
   gi_wp2
   refine⟨trivial,?_⟩
   gi_at_call 74
   refine(CallsIn.inRound k (callsIn_wide.2 bDI)).mono ?_;rintro e w9 ⟨rfl,Vw⟩
   gi_wp2
   have gr:W.grownBy w9 none:=⟨Vw.os,Vw.tape,Vw.output,Vw.size,fun k hk _=>Vw.block k hk⟩;have nr:∀r,(none:Option Nat)=some r->∃o:Obj,W.heap[r]?=some o/\o.isCells=false:=fun r e=>by cases e
   refine⟨KeepsOthers.of_grownBy gr (fun j o e=>by cases e),Vw.mono hZ,⟨fun r hr=>?_,hR.kept gr nr,cell_kept zS gr nr,cell_kept vQ gr nr,hC.kept gr nr,bWK hZ Vw.size⟩,hB.trans (Vw.mono (by omega))⟩;rcases List.mem_append.1 hr with hr |hr
   ·exact aYX r hr
   ·rw[List.mem_singleton.1 hr];exact hd
  |true =>
   rw[hd]at bDI
   gi_wp2_with (refine⟨trivial,?_⟩;gi_at_call 74;refine(CallsIn.inRound k (callsIn_wide.2 bDI)).mono ?_;rintro e w9 ⟨rfl,Vw⟩;obtain⟨c1,c2,c3,c4,k1,k2,k3,k4⟩:=hR.below Vw)
   have gr:W.grownBy w9 none:=⟨Vw.os,Vw.tape,Vw.output,Vw.size,fun k hk _=>Vw.block k hk⟩;exact⟨(KeepsOthers.of_grownBy gr (fun j o e=>by cases e)).trans (Pb _ _ _ _ _ _),⟨rfl,x,pre,rfl,aYX,hd,(Ye.below hR Vw).put _ _ _ _⟩,Ft (hB.trans (Vw.mono (by omega))) (bVO _) _ _ _ _⟩
 case done =>
  rintro D ys W hD hS ⟨⟨aYX,hR,_⟩,hB⟩ hK;have bTW:=hR;obtain⟨c1,c2,c3,c4,k1,k2,k3,k4⟩:=bTW
  gi_wp2
  have bOB:=(Pb w.heap.size W (.int .u64 0) (.bool false) (.int .i64 0) (.int .i64 0)).same D _ hK rfl;refine⟨by simp,.inl ⟨_,_,rfl,run_takeDeferred bOB,?_⟩⟩;have bKA:=(hR.put (.int .u64 0) (.bool false) (.int .i64 0) (.int .i64 0)).kept (grownBy_putObj' _ D (.deferred none)) (fun r e=>by cases e;exact⟨_,bOB,rfl⟩);have en:Tc f fn b s l=(0,false,0):=by
   unfold Tc;rw[<-hS,Lv (fun r hr=>by obtain⟨x,hx,rfl⟩:=List.mem_map.1 hr;exact aYX x hx)]
  refine⟨_,bKA.out _ rfl rfl,?_⟩;rw[en];exact⟨rfl,(Ft hB (bVO _) _ _ _ _).grown (grownBy_putObj' _ D (.deferred none)) (Ft hB (bVO _) _ _ _ _).size (fun k e=>by cases e;omega)⟩
 case stop =>
  rintro D c pre W hD hS ⟨⟨rfl,r,init,rfl,aYX,hd,hR⟩,hB⟩ hK
  gi_wp2
  refine⟨by simp,.inl ⟨_,_,rfl,run_takeDeferred hK,?_⟩⟩;have bKA:=hR.kept (grownBy_putObj' _ D (.deferred none)) (fun r e=>by cases e;exact⟨_,hK,rfl⟩);have en:Tc f fn b s l=((dP.Cv f fn b r.1).1,true,r.1):=by
   obtain⟨rest,hr⟩:=hS;unfold Tc;rw[<-hr,List.map_append,List.map_cons,List.map_nil,List.append_assoc,bXH,bZR,Lu (fun r hr=>by obtain⟨x,hx,rfl⟩:=List.mem_map.1 hr;exact aYX x hx) hd]
  refine⟨_,bKA.out _ rfl rfl,?_⟩;rw[en];exact⟨rfl,hB.grown (grownBy_putObj' _ D (.deferred none)) hB.size (fun k e=>by cases e;omega)⟩
def Si(f fn b s l:Int):Int:=if fO.xM s l then iL.vV f fn b else 1
def Gx(f fn b s l:Int):Int×Bool×Int:=if Si f fn b s l≠0 then(0,false,0)else bif (dP.Xp f fn b).2 then((dP.Xp f fn b).1,true,0)else Tc f fn b s l
def sp(f fn b s l:Int):Prop×List D:=(0<=b/\b<18446744073709551616,[.agg [.sc (.int .u64 (Gx f fn b s l).1),.sc (.bool (Gx f fn b s l).2.1),.sc (.int .i64 (Gx f fn b s l).2.2)],.s (.sc (.int .i64 (Si f fn b s l)))])
def aJ:dK:=orc5 (pN .i64) (pN .i64) (pN .u64) (pN .i64) (pN .i64) sp
theorem ok:OK 28 aJ:=aPO (oJ func28 rfl rfl) fun f fn b s l hb=>by
 have hb:0<=b/\b<18446744073709551616:=hb;refine Wo (xs:=[.int .i64 f,.int .i64 fn,.int .u64 b,.int .i64 s,.int .i64 l]) (ys:=[.agg #[.int .u64 (Gx f fn b s l).1,.bool (Gx f fn b s l).2.1,.int .i64 (Gx f fn b s l).2.2],.int .i64 (Si f fn b s l)]) (fun w hG=>?_) rfl (fun i d v hd hv=>?_)
 ·unfold Gx
  by_cases he:Si f fn b s l≠0
  ·rw[if_pos he];exact bad f fn b s l hb he hG
  ·rw[if_neg he];have e0:Si f fn b s l=0:=Classical.not_not.1 he;rw[e0];unfold Si at e0;cases hl:fO.xM s l with
   |false=>rw[hl]at e0;cases e0
   |true =>
    rw[hl,if_pos rfl]at e0;cases hs:(dP.Xp f fn b).2 with
    |true=>exact aOZ f fn b s l hb hl e0 hs hG
    |false=>exact aXL f fn b s l hb hl e0 hs hG
 ·match i with
  |0=>cases hd;cases hv;exact⟨rfl,fun Y w=>bLF rfl rfl rfl⟩
  |1=>cases hd;cases hv;exact⟨rfl,fun Y w=>⟨rfl,rfl⟩⟩
  |i+2=>cases hd
end IvClimb
namespace yG
def E:=mE [(28,IvClimb.aJ)] 23 [15] [] []
def aE:=bd f26
theorem aX:Nk E aE:=nk
theorem start a b c:aH E f26 aE [D.s (sc (int i64 a)),D.s (sc (int i64 b)),D.s (sc (int u64 c))]=letI A:=IvClimb.Gx a b c 128 65536;aO (0<=c/\c<18446744073709551616) (some [D.s (sc (int u64 A.fst)),D.s (sc (bool A.snd.fst)),D.s (sc (int i64 (IvClimb.Si a b c 128 65536)))]):=eJ aX
def aGE(f fn b:Int):Int×Bool×Int:=IvClimb.Gx f fn b 128 65536
def sp(f fn b:Int):Prop×List D:=(0<=b/\b<18446744073709551616,[.s (.sc (.int .u64 (aGE f fn b).1)),.s (.sc (.bool (aGE f fn b).2.1)),.s (.sc (.int .i64 (iL.vV f fn b)))])
theorem spec:oK E f26 aE (pN .i64) (pN .i64) (pN .u64) sp:=by
 intro f fn b h;refine(start f fn b).trans ((gP h).trans ?_);have e:IvClimb.Si f fn b 128 65536=iL.vV f fn b:=if_pos rfl;rw[e];rfl
def aJ:dK:=orc3 (pN .i64) (pN .i64) (pN .u64) sp
theorem ok:OK 26 aJ:=(eZ E aE (aA IvClimb.ok aD) func26).yK rfl spec
end yG
end W
namespace W.Ziv
open Go AI M W W.aSC
theorem qU{f:Int}(hf:f=32\/f=64){p q:Int×Int}(h0:0<p.1)(h:R.qz p<=R.qz q):jH.kT f p<=jH.kT f q:=by
 have q0:0<q.1:=kA.1 (by have:=kA.2 h0;grind);have m:=aEV hf h;have b1:=Ou hf p;have b2:=Ou hf q;rw[Dw h0,Dw q0]at *;unfold ord at m;rw[aU,aU]at m;exact m
def Tw(f Q:Int)(V:Rat):Prop:=∃a c:Int×Int,0<a.1/\R.qz a<=V/\V<=R.qz c/\jH.kT f a=Q/\jH.kT f c=Q
def bEM(f Q:Int)(V:Rat):Prop:=Tw f Q V\/Tw f (Q-sg f) (-V)
theorem Tw.pos{f Q:Int}{V:Rat}(h:Tw f Q V):0<V:=by
 obtain⟨a,c,h0,h1,_⟩:=h;have:=kA.2 h0;grind
theorem Tw.bd{f Q:Int}{V:Rat}(hf:f=32\/f=64)(h:Tw f Q V):0<=Q/\Q<=mK.rN (Ig.Ix f)/\mK.rN (Ig.Ix f)<sg f:=by
 obtain⟨a,c,h0,_,_,rfl,_⟩:=h;rw[Dw h0];exact Ou hf a
theorem Tw.eq{f Q Q':Int}{V:Rat}(hf:f=32\/f=64)(h:Tw f Q V)(h':Tw f Q' V):Q=Q':=by
 obtain⟨a,c,h0,h1,h2,rfl,e1⟩:=h;obtain⟨a',c',bKS,Xy,aQW,rfl,e2⟩:=h';have m1:=qU hf h0 (cFT h1 aQW);have m2:=qU hf bKS (cFT Xy h2);omega
theorem bEM.eq{f Q Q':Int}{V:Rat}(hf:f=32\/f=64)(h:bEM f Q V)(h':bEM f Q' V):Q=Q':=by
 rcases h with h |h <;> rcases h' with h' |h'
 ·exact h.eq hf h'
 ·have:=h.pos;have:=h'.pos;grind
 ·have:=h.pos;have:=h'.pos;grind
 ·have:=h.eq hf h';omega
theorem bEM.bd{f Q:Int}{V:Rat}(hf:f=32\/f=64)(h:bEM f Q V):0<=Q/\Q<2*sg f:=by
 rcases h with h |h <;> have:=h.bd hf <;> omega
end W.Ziv
namespace W.Ziv
open Go AI M W W.aSC
def sI(u W:Nat):Nat->Int
 |0=>0
 |n+1=>sI u W n+(if n%4=1 then(R.sq u W n:Int)else if n%4=3 then -(R.sq u W n:Int)else 0)
def cI(u W:Nat):Nat->Int
 |0=>0
 |n+1=>cI u W n+(if n%4=0 then(R.sq u W n:Int)else if n%4=2 then -(R.sq u W n:Int)else 0)
theorem aSQ(u W:Nat):∀n,((sI u W n:Int):Rat)=R.sum (fun k=>R.ss k*(R.sq u W k:Rat)) n
 |0=>by simp[sI,R.sum]
 |n+1=>by
  rw[sI,R.dO,cIN,aSQ u W n];unfold R.ss;split
  ·rw[cKN,cGV]
  ·split
   ·rw[cIM,cGV];grind
   ·rw[cKM];rfl
theorem aTX(u W:Nat):∀n,((cI u W n:Int):Rat)=R.sum (fun k=>R.cc k*(R.sq u W k:Rat)) n
 |0=>by simp[cI,R.sum]
 |n+1=>by
  rw[cI,R.dO,cIN,aTX u W n];unfold R.cc;split
  ·rw[cKN,cGV]
  ·split
   ·rw[cIM,cGV];grind
   ·rw[cKM];rfl
def wK:Nat:=1208925819614629174706176
theorem aUN:R.ab (((1017275999990815458903788:Nat):Rat)-(wK:Rat)*R.sn 1)<=680/\R.ab (((653185407961314874212932:Nat):Rat)-(wK:Rat)*R.cs 1)<=680:=by
 have e1:sI (2^79) (2^80) 81=((579589912201271152073009:Nat):Int):=by decide +kernel
 have e2:cI (2^79) (2^80) 81=((1060932217912824869797341:Nat):Int):=by decide +kernel
 have h1:=aSQ (2^79) (2^80) 81;have h2:=aTX (2^79) (2^80) 81;rw[e1,cGV]at h1;rw[e2,cGV]at h2;have m:((2^79:Nat):Rat)<((2^79:Nat):Rat)+1:=by grind
 have b:=R.aEB (T:=1) (w1:=79) (h:=1) (u:=2^79) (by grind) (cGB) (by rw[Rat.mul_one];exact cGB) (by rw[Rat.mul_one];exact m) (by decide) (by decide) (by decide) h1 h2;have d:R.Gk (2^(79+1)) 1 579589912201271152073009 1060932217912824869797341=(1017275999990815458903788,653185407961314874212932):=by decide +kernel
 have w:2^(79+1)=wK:=by decide +kernel
 have t:((4^1*(2*(79+1)+10):Nat):Rat)=680:=by norm_cast
 rw[d,w,t]at b;exact b
def Nh:Int:=4607182418800017408
theorem aJL:Real Nh:=⟨by decide,by decide +kernel,by decide +kernel,by decide +kernel⟩
theorem aJM:R.qz (aZ.qM Nh)=1:=by
 rw[show aZ.qM Nh=(1,0) by decide +kernel,oV]
theorem aSI:R.pz (-80)*(wK:Rat)=1:=by
 have:=R.fS 0 (n:=80) (c:=(wK:Rat)) (by rw[show 2^80=wK by decide +kernel]);rwa [R.fV]at this
theorem aUX:R.ab (((1017275999990815458903788:Nat):Rat)-(wK:Rat)*R.Sf 1 (kx Nh))<=681/\R.ab (((653185407961314874212932:Nat):Rat)-(wK:Rat)*R.Cf 1 (kx Nh))<=681:=by
 obtain⟨p1,p2⟩:=R.gX;have n1:=aCR aJL;rw[aJM]at n1;unfold R.rW at n1;have hk:R.ab (1-(kx Nh:Rat)*(R.pi/2))<=1:=cFT n1 (by grind);have hl:R.ab (1-((0:Int):Rat)*(R.pi/2))<=1:=by
  rw[show((0:Int):Rat)=0 from rfl,cKM,R.bW];grind
 obtain⟨a,b⟩:=R.aUO hk hl;have e0:R.Sf 1 0=R.sn 1:=by
  unfold R.Sf R.rs;rw[if_pos (show(0:Int)%4=0 from rfl),show((0:Int):Rat)=0 from rfl,cKM,show(1:Rat)-0=1 by grind]
 have e1:R.Cf 1 0=R.cs 1:=by
  unfold R.Cf R.rc;rw[if_pos (show(0:Int)%4=0 from rfl),show((0:Int):Rat)=0 from rfl,cKM,show(1:Rat)-0=1 by grind]
 rw[e0]at a;rw[e1]at b;obtain⟨c,d⟩:=aUN;have h:=R.Ps (n:=80) (by decide);rw[R.bAE]at h;have hw:=aSI;have w0:(0:Rat)<=(wK:Rat):=by exact_mod_cast cBX _
 have m:=R.aF w0 (show 0<=R.pz (-80)-R.Eg from by
  have:R.Eg<=R.pz (-80):=h;grind)
 have hm:(wK:Rat)*R.Eg<=1:=by grind
 rw[R.bW]at a b c d;have ma1:=R.aF w0 (show 0<=R.Eg+(R.Sf 1 (kx Nh)-R.sn 1) by grind);have ma2:=R.aF w0 (show 0<=R.Eg-(R.Sf 1 (kx Nh)-R.sn 1) by grind);have mb1:=R.aF w0 (show 0<=R.Eg+(R.Cf 1 (kx Nh)-R.cs 1) by grind);have mb2:=R.aF w0 (show 0<=R.Eg-(R.Cf 1 (kx Nh)-R.cs 1) by grind);rw[R.bW,R.bW];generalize (wK:Rat)=W at *;generalize R.Sf 1 (kx Nh)=A at *;generalize R.Cf 1 (kx Nh)=B at *;constructor <;> constructor <;> grind
theorem aPG{a b c s w d:Nat}{V C:Rat}(hw:0<w)(hd:d<c)(h1:a*(c+d)+w*d<=w*s)(h2:w*(s+d)+b*d<=b*c)(hC:R.ab ((c:Rat)-(w:Rat)*C)<=(d:Rat))(hS:C≠0->R.ab ((s:Rat)-(w:Rat)*(V*C))<=(d:Rat)):(a:Rat)<=(w:Rat)*V/\(w:Rat)*V<=(b:Rat):=by
 have g1:(a:Rat)*((c:Rat)+d)+w*d<=w*s:=by exact_mod_cast h1
 have g2:(w:Rat)*((s:Rat)+d)+b*d<=b*c:=by exact_mod_cast h2
 have w0:(0:Rat)<w:=by exact_mod_cast hw
 have a0:(0:Rat)<=a:=by exact_mod_cast cBX _
 have b0:(0:Rat)<=b:=by exact_mod_cast cBX _
 have d0:(d:Rat)<c:=by exact_mod_cast hd
 rw[R.bW]at hC;have c0:0<C:=by
  refine Rat.not_le.1 fun hn=>?_
  have:=R.aF (cFS w0) (show 0<=-C by grind);grind
 have hS:=hS (by grind);rw[R.bW]at hS;have q0:=Rat.mul_pos w0 c0;generalize (w:Rat)=W at *;generalize (a:Rat)=A at *;generalize (b:Rat)=B at *;generalize (c:Rat)=c at *;generalize (s:Rat)=s at *;generalize (d:Rat)=d at *;have m1:=R.aF a0 (show 0<=c+d-W*C by grind);have m2:=R.aF (cFS w0) (show 0<=W*(V*C)-(s-d) by grind);have m3:=R.aF b0 (show 0<=W*C-(c-d) by grind);have m4:=R.aF (cFS w0) (show 0<=s+d-W*(V*C) by grind);exact⟨R.bV q0 (by grind),R.bV q0 (by grind)⟩
theorem Ri:∀{fn:Int} {A B:Int},((fn=1/\A=1017275999990815458903107/\B=1017275999990815458904469)\/(fn=2/\A=653185407961314874212251/\B=653185407961314874213613)\/(fn=3/\A=1882790410002582395862843/\B=1882790410002582395872377))->R.qz (A,-80)<=vx fn Nh/\vx fn Nh<=R.qz (B,-80):=by
 intro fn A B h;obtain⟨a,b⟩:=aUX;have hw:=aSI;have w0:(0:Rat)<(wK:Rat):=by exact_mod_cast(show 0<wK by decide)
 have p0:=R.dJ (-80);have key:∀{V:Rat} {A B:Int},(A:Rat)<=(wK:Rat)*V->(wK:Rat)*V<=(B:Rat)->R.qz (A,-80)<=V/\V<=R.qz (B,-80):=by
  intro V A B h1 h2;have m1:=R.aF (cFS p0) (show 0<=(wK:Rat)*V-(A:Rat) by grind);have m2:=R.aF (cFS p0) (show 0<=(B:Rat)-(wK:Rat)*V by grind);unfold R.qz;dsimp only;have e:R.pz (-80)*((wK:Rat)*V)=V:=by rw[<-cGT,hw,cKN]
  constructor <;> grind
 rw[R.bW]at a b;have k1:((681:Nat):Rat)=681:=by norm_cast
 unfold vx R.fv;rw[aJM];rcases h with ⟨rfl,rfl,rfl⟩ |⟨rfl,rfl,rfl⟩ |⟨rfl,rfl,rfl⟩
 ·rw[if_pos rfl];refine key ?_ ?_
  ·rw[show(1017275999990815458903107:Int)=((1017275999990815458903788:Nat):Int)-((681:Nat):Int) by decide +kernel,cJM,cGV,cGV,k1];grind
  ·rw[show(1017275999990815458904469:Int)=((1017275999990815458903788:Nat):Int)+((681:Nat):Int) by decide +kernel,cIN,cGV,cGV,k1];grind
 ·rw[if_neg (by decide),if_pos rfl];refine key ?_ ?_
  ·rw[show(653185407961314874212251:Int)=((653185407961314874212932:Nat):Int)-((681:Nat):Int) by decide +kernel,cJM,cGV,cGV,k1];grind
  ·rw[show(653185407961314874213613:Int)=((653185407961314874212932:Nat):Int)+((681:Nat):Int) by decide +kernel,cIN,cGV,cGV,k1];grind
 ·rw[if_neg (by decide),if_neg (by decide)];generalize R.Sf 1 (kx Nh)=S at *;generalize R.Cf 1 (kx Nh)=C at *;obtain⟨q1,q2⟩:=aPG (a:=1882790410002582395862843) (b:=1882790410002582395872377) (c:=653185407961314874212932) (s:=1017275999990815458903788) (w:=wK) (d:=681) (V:=S/C) (C:=C) (by decide) (by decide) (by decide +kernel) (by decide +kernel) (by rw[R.bW,k1];exact⟨b.1,b.2⟩) (fun hc=>by rw[Rat.div_mul_cancel hc,R.bW,k1];exact⟨a.1,a.2⟩);refine key ?_ ?_
  ·rw[show(1882790410002582395862843:Int)=((1882790410002582395862843:Nat):Int)from rfl,cGV];exact q1
  ·rw[show(1882790410002582395872377:Int)=((1882790410002582395872377:Nat):Int)from rfl,cGV];exact q2
theorem vD{f P:Int}(hf:f=32\/f=64){s:(Int×Int)×(Int×Int)}{A B:Int×Int}(hA:0<A.1)(a:R.qz A<=R.qz s.1)(h:R.qz s.1<=R.qz s.2)(b:R.qz s.2<=R.qz B)(e1:jH.kT f A=P)(e2:jH.kT f B=P):rH.aOL f s=(P,true):=by
 have s0:0<s.1.1:=kA.1 (by have:=kA.2 hA;grind);have t0:0<s.2.1:=kA.1 (by have:=kA.2 s0;grind);have m1:=qU hf hA a;have m2:=qU hf s0 h;have m3:=qU hf t0 b;unfold rH.aOL;rw[aU,show jH.kT f s.1=P by omega]
theorem aUT{f P A B:Int}(hf:f=32\/f=64){s:(Int×Int)×(Int×Int)}{V:Rat}(h:aGQ s V 128)(hA:1<A)(hB:B<=2417851639229258349412352)(a:R.qz (A,-80)<=V)(b:V<=R.qz (B,-80))(e1:jH.kT f (A-1,-80)=P)(e2:jH.kT f (B+1,-80)=P):rH.aOL f s=(P,true):=by
 have V2:V<=R.qz (1,1):=cFT b ((R.Ur (g:=-80) (by show(-80:Int)<=-80;decide) (by show(-80:Int)<=1;decide)).2 (by rw[show(1:Int)*((2^((1:Int) - -80).toNat:Nat):Int)=2417851639229258349412352 by decide +kernel,show((2^((-80:Int) - -80).toNat:Nat):Int)=1 by decide +kernel,Int.mul_one];exact hB));have V0:0<=V:=cFT (cFS (kA.2 (show 0<((A,-80):Int×Int).1 by show 0<A;omega))) a;have e:R.qz (1,1)=2:=by unfold R.qz;rw[R.aJG];grind
 rw[e]at V2;obtain⟨_,_,lo,hi,wd,_⟩:=h;rw[R.bG V0]at wd;have w1:=R.aF (cFS (R.dJ (-129))) (show 0<=2-V by grind);have w2:=R.qA (-128);have w3:=R.cG (show(-128:Int)<=-80 by decide);have wd:R.qz s.2-R.qz s.1<=R.pz (-129)*V:=wd;have w2:R.pz (-129)*2=R.pz (-128):=w2;have ea:R.qz (A-1,-80)=R.qz (A,-80)-R.pz (-80):=by
  unfold R.qz;dsimp only;rw[cJM,show((1:Int):Rat)=1 from rfl];grind
 have eb:R.qz (B+1,-80)=R.qz (B,-80)+R.pz (-80):=by
  unfold R.qz;dsimp only;rw[cIN,show((1:Int):Rat)=1 from rfl];grind
 exact vD hf (A:=(A-1,-80)) (B:=(B+1,-80)) (by show 0<A-1;omega) (by grind) (by grind) (by grind) e1 e2
theorem aJN{fn:Int}(h:fn=1\/fn=2\/fn=3):iL.vV 64 fn Nh=0/\(dP.Xp 64 fn Nh).2=false:=by
 rcases h with rfl |rfl |rfl <;> exact⟨by decide +kernel,by decide +kernel⟩
def aPR(fn:Int):Int:=if fn=1 then 4605754516372524270 else if fn=2 then 4603041830072026764 else 4609692760021066662
theorem aCM{fn:Int}(h:fn=1\/fn=2\/fn=3):dP.Cv 64 fn Nh 128=(aPR fn,true):=by
 obtain⟨he,hs⟩:=aJN h;have hn:=aJP (by decide) he hs;obtain⟨_,hE⟩:=xQ hn (show(1:Int)<=128/\(128:Int)<=66000 by decide);have ev:vZ fn (fZ.xV 64 Nh)=vx fn Nh:=by
  unfold vZ fZ.xV;rw[aW,if_neg (by decide)]
 rw[ev]at hE;unfold dP.Cv yQ.dec;rcases h with rfl |rfl |rfl
 ·obtain⟨a,b⟩:=Ri (fn:=1) (.inl ⟨rfl,rfl,rfl⟩);exact aUT (.inr rfl) hE (by decide) (by decide) a b (by decide +kernel) (by decide +kernel)
 ·obtain⟨a,b⟩:=Ri (fn:=2) (.inr (.inl ⟨rfl,rfl,rfl⟩));exact aUT (.inr rfl) hE (by decide) (by decide) a b (by decide +kernel) (by decide +kernel)
 ·obtain⟨a,b⟩:=Ri (fn:=3) (.inr (.inr ⟨rfl,rfl,rfl⟩));exact aUT (.inr rfl) hE (by decide) (by decide) a b (by decide +kernel) (by decide +kernel)
theorem Pe{fn l:Int}(h:fn=1\/fn=2\/fn=3)(hl:128<=l/\l<=66000):IvClimb.Gx 64 fn Nh 128 l=(aPR fn,true,128):=by
 obtain⟨he,hs⟩:=aJN h;have el:fO.xM 128 l=true:=decide_eq_true ⟨by decide,hl⟩;unfold IvClimb.Gx IvClimb.Si;rw[el,if_pos rfl,he,if_neg (by decide),hs,cond_false];unfold IvClimb.Tc;rw[IvLadder.oP hl.1];unfold IvClimb.first
 rw[aCM h,cond_true];dsimp only;rw[aCM h]
end W.Ziv
namespace W
open Go AI M
namespace Jl
def E:=mE [(26,yG.aJ),(27,dP.aJ),(28,IvClimb.aJ)] 93 [] [(7,[1,4,7,10])] [7]
def aE:=bd f24
theorem aX:Nk E aE:=nk
def J7 a b c d:=mD E f24 aE 7 [dC a,dC b,dC c,dC d]
theorem start:aH E f24 aE []=letI F:=yG.aGE 64 3 4607182418800017408;letI C:=yG.aGE 64 2 4607182418800017408;letI B:=yG.aGE 64 1 4607182418800017408;letI A:=some [D.s (sc (bool false))];aO ((0:Int)<=(4607182418800017408:Int)/\(4607182418800017408:Int)<(18446744073709551616:Int)) (aO ((0:Int)<=(4607182418800017408:Int)/\(4607182418800017408:Int)<(18446744073709551616:Int)) (aO ((0:Int)<=(4607182418800017408:Int)/\(4607182418800017408:Int)<(18446744073709551616:Int)) (aO ((0:Int)<=(4602678819172646912:Int)/\(4602678819172646912:Int)<(18446744073709551616:Int)) (aB (!B.snd.fst) A (aB (!C.snd.fst) A (aB (!F.snd.fst) A (Jl.J7 B.fst C.fst F.fst (dP.aGF 64 4 4602678819172646912 1).fst))))))):=eJ aX
theorem Na a b c d:J7 a b c d=letI B:=some [D.s (sc (bool false))];letI A:=IvClimb.Gx 64 1 4607182418800017408 128 128;aO ((0:Int)<=(4607182418800017408:Int)/\(4607182418800017408:Int)<(18446744073709551616:Int)) (aB (a==4605754516372524270) (aB (b==4603041830072026764) (aB (c==4609692760021066662) (aB (d==4607182418800017408) (some [D.s (sc (bool (A.fst==a&&(A.snd.fst==true&&(A.snd.snd==128&&true)))))]) B) B) B) B):=cJ aX
def sp:Prop×List D:=(True,[.s (.sc (.bool true))])
theorem spec(h:sp.1):aH E f24 aE []=some sp.2:=by
 have v:∀fn:Int,fn=1\/fn=2\/fn=3->yG.aGE 64 fn 4607182418800017408=(Ziv.aPR fn,true,128):=fun fn h=>Ziv.Pe (l:=65536) h (by decide)
 have d:dP.aGF 64 4 4602678819172646912 1=(4607182418800017408,true):=by
  unfold dP.aGF;rw[if_neg (show ¬dP.aRG 64 4 4602678819172646912 1≠0 from fun h=>h (by decide +kernel)),show dP.Xp 64 4 4602678819172646912=(4607182418800017408,true) by decide +kernel,cond_true]
 refine start.trans ?_;rw[v 1 (by decide),v 2 (by decide),v 3 (by decide),d,gP (by decide),gP (by decide),gP (by decide),gP (by decide)];show J7 4605754516372524270 4603041830072026764 4609692760021066662 4607182418800017408=_;have c:IvClimb.Gx 64 1 4607182418800017408 128 128=(Ziv.aPR 1,true,128):=Ziv.Pe (l:=128) (.inl rfl) (by decide);rw[Na,c,gP (by decide)];rfl
def aJ:dK:=orc0  sp
theorem ok:OK 24 aJ:=(eZ E aE (aA yG.ok (aA dP.ok (aA IvClimb.ok aD))) func24).bGX spec
end Jl
namespace LawZLadders
def E:=mE [(23,uV.aJ),(25,uW.aJ),(22,Eu.aJ),(24,Jl.aJ)] 46 [45] [(3,[0,1,2]),(6,[0,1,2,7]),(8,[0,1,2,7])] [3,6,8]
def aE:=bd f4
theorem aX:Nk E aE:=nk
def J3 a b c:=mD E f4 aE 3 [bP a,bP b,bP c]
def J6 a b c (d:List Int):=mD E f4 aE 6 [bP a,bP b,bP c,vA (ints i64 d)]
def J8 a b c (d:List Int):=mD E f4 aE 8 [bP a,bP b,bP c,vA (ints i64 d)]
theorem start a b c:aH E f4 aE [D.s (sc (int i64 a)),D.s (sc (int i64 b)),D.s (sc (int i64 c))]=aO True (aO ((4:Nat)<=(4398046511104:Nat)/\(4:Nat)<=(4398046511104:Nat)) (aO True (LawZLadders.J3 a b c))):=eJ aX
theorem gU a b c:J3 a b c=letI B:=some [D.s (sc (bool false))];letI A:=uV.Ni a b;aO True (aO True (aC (if(99:Int)<=(0:Int)then []else cER 99 A) fun d=>aO (d.length<=4398046511104/\A.length<=4398046511104) (aC (decide (d=uV.Ni a b)) fun e=>aB (!e) B (aO True (aC (if(99:Int)<=(0:Int)then []else cER 99 A) fun f=>aO (f.length<=4398046511104/\A.length<=4398046511104) (aC (decide (f=uV.Ni a b)) fun g=>aB (!g) B (LawZLadders.J6 a b c A))))))):=cJ aX
theorem Nb a b c d:J6 a b c d=aB (decide (c<0)) (LawZLadders.J8 a b 0 d) (LawZLadders.J8 a b c d):=cJ aX
theorem yP a b c d:J8 a b c d=letI A:=(d.length:Int);letI B:=cER (if A<c then A else c).toNat d;aO True (aC (if c<=0 then []else cER c.toNat (uV.Ni a b)) fun e=>if(0:Int)<=(0:Int)/\(0<=if A<c then A else c)/\(if A<c then A else c)<=A then aO (e.length<=4398046511104/\(List.drop 0 B).length<=4398046511104) (aC (decide (e=List.drop 0 B)) fun f=>some [D.s (sc (bool f))])else none):=cJ aX
def sp(s l m:Int):Prop×List D:=(True,[.s (.sc (.bool true))])
theorem aCQ(s l:Int):(uV.Ni s l).length<=17:=by
 unfold uV.Ni;cases fO.xM s l with
 |false=>exact cBX _
 |true=>exact IvLadder.Ke 17 s l
theorem bOT{s l m:Int}(hm:0<=m):J8 s l m (uV.Ni s l)=some [.s (.sc (.bool true))]:=by
 have h:=aCQ s l;rw[yP];generalize uV.Ni s l=xs at *;have e:(if m<=0 then []else xs.take m.toNat)=xs.take m.toNat:=by
  by_cases c:m<=0
  ·rw[if_pos c,show m.toNat=0 by omega,List.take_zero]
  ·rw[if_neg c]
 have hl:(xs.take m.toNat).length<=17:=by rw[List.length_take];omega
 rw[gP trivial,aG,e]
 by_cases c:(xs.length:Int)<m
 ·rw[if_pos c,if_pos ⟨cHO _,by omega,cHO _⟩,bZL,cCE,cBH (show xs.length<=m.toNat by omega),List.take_length,gP,aG,decide_eq_true rfl]
 ·rw[if_neg c,if_pos ⟨cHO _,hm,by omega⟩,cCE,gP,aG,decide_eq_true rfl]
theorem spec:oK E f4 aE (pN .i64) (pN .i64) (pN .i64) sp:=by
 intro s l m h;refine(start s l m).trans ?_;have hl:=aCQ s l;have e:(if(99:Int)<=0 then []else cER 99 (uV.Ni s l))=uV.Ni s l:=by
  rw[if_neg (by decide)];exact cBH (by omega)
 rw[gP trivial,gP (by decide),gP trivial,gU,gP trivial,gP trivial,aG,e,gP,aG,decide_eq_true rfl,bXO,bF,gP trivial,aG,gP,aG,decide_eq_true rfl,bXO,bF,Nb]
 by_cases c:m<0
 ·rw[aP c,bOT (cHO _)];rfl
 ·rw[aL c,bOT (by omega)];rfl
def aJ:dK:=orc3 (pN .i64) (pN .i64) (pN .i64) sp
theorem fnok:tB prog E 4 f4 aE:=aFO rI mixed (lY _ rfl (aA uV.ok (aA uW.ok (aA Eu.ok (aA Jl.ok aD)))) (nT)) func4 rfl rfl rfl
theorem ok:kY prog base.glob 4 aJ:=fnok.yK rfl spec
end LawZLadders
end W
namespace AI
open Go Go.RowKit Go.ChangeShapes Go.WideShapes Go.ChangeAt
abbrev noX:Nat->Prop:=fun _=>False
theorem aRV{w:World}{a:Addr}{v:Value}(h:w.cell? a=some v):a=⟨a.block,a.off,none⟩/\a.block<w.heap.size:=by
 unfold World.cell? at h;split at h
 ·rename_i c t fr hb;split at h
  ·cases h
  ·rename_i hs;obtain⟨b,o,s⟩:=a;cases s with
   |some x=>simp at hs
   |none=>exact⟨rfl,(Array.getElem?_eq_some_iff.1 hb).1⟩
 ·cases h
section
variable {H:Type} {enc:TypeId×Value->H} {P:Program} {w:World} {held:Bool} {sp:Nat->Bool}
theorem glob_ints{name:String}{g:Nat}{t e:TypeId}{k:IntKind}{n fuel:Nat}{ns:List Int}{cs:Array Value}{p:List MemPlace}(hg:P.globalNamed name=some g)(hv:w.var? P name=some cs)(ht:P.underlying t=some (.array n e))(he:P.underlying e=some (.int k))(hc:P.cellsOf e=1)(hn:ns.length=n)(Br:0<n)
  (hd:DataW.trod enc P w 0 sp held fuel t cs.toList=some (.agg (ns.map fun m=>.lit (.int k m)),p)):g<w.heap.size/\¬noX g/\uG noX w g 0 (wJ k ns):=by
 obtain⟨xs,m1,_,hx,_,aTF,bTA⟩:=DataW.trod_array ht hd;simp only[Prod.mk.injEq,DataW.agg.injEq]at hx;have cell:∀i v,ns[i]?=some v->w.cell? ⟨g,i,none⟩=some (.int k v):=by
  intro i v hi;have jB:i<n:=by have:=(List.getElem?_eq_some_iff.1 hi).1;omega
  have h1:=bTA i jB;have bMJ:xs[i]?=some xs[i]:=bWF (by omega);rw[bMJ,hc,Nat.mul_one]at h1;obtain⟨m,e1,e2,_⟩:=DataW.trod_int he h1;have h2:=congrArg (fun l=>l[i]?) hx.1;simp only[bVS,hi,bMJ,e2,Option.map_some]at h2;have bRW:v=m:=by simpa using h2
  subst bRW;have h3:((cs.toList.drop i).take 1)[0]?=some (.int k v):=by rw[e1];rfl
  rw[List.getElem?_take,aU,List.getElem?_drop]at h3;have h4:=World.var?_cell hg hv i;rw[h4];simpa using h3
 have h0:ns[0]?=some ns[0]:=bWF (by omega);have hb:=(aRV (cell 0 _ h0)).2;refine⟨hb,id,fun i s hs=>⟨hb,id,?_⟩⟩;unfold wJ at hs;rw[bVS]at hs;obtain⟨v,aHA,rfl⟩:=Option.map_eq_some_iff.1 hs;refine⟨_,by rw[bVQ];exact cell i v aHA,rfl,rfl⟩
end
theorem calls_true{P:Program}{G:Nat->Option (IntKind×List Int)}{f:FuncId}{ds:List D}(hc:Contract P G f ds [.s (.sc (.bool true))]){w:World}{vs:List Value}(hG:GlobOk G noX w)(hl:ds.length=vs.length)
  (hr:∀(i:Nat) (d:D) (v:Value),ds[i]?=some d->vs[i]?=some v->lL noX w d v):Calls P f vs.toArray w fun e w'=>e=.returned (.bool true)/\Below w.heap.size w w':=by
 refine(hc noX w vs (fun _ h=>h.elim) hG hl hr).mono ?_;rintro e w' ⟨tK,rfl,hb,g,hl,_,hr⟩
 match tK,hl with
 | [v],_ =>
  have:=hr 0 _ v rfl rfl;obtain⟨rfl,_⟩:=this;exact⟨rfl,hb⟩
end AI
end Go.Proofs.YtplagoepbghhpaaGreatDoor
end
