/- Contracts of functions and laws, for the claim. -/
import Derived.WalkKit
import Derived.ProofKit
import Derived.OpenShut
import Derived.Carry
import Derived.LaidMore
import Derived.MakeChecks
import Derived.Test.YtaajbopgknekmaaGreatDoorBShared4
set_option linter.unusedVariables false
set_option linter.unusedSimpArgs false
set_option exponentiation.threshold 10000000
noncomputable section
open Go.IntKind(i8 i16 i32 i64 u8 u16 u32 u64)
open Go.Proofs.Tryz
open Nat renaming le_trans->bYC,mul_add->cCO,pow_add->cCH,mul_assoc->cCN,pow_succ->cCK,mul_le_mul_left->bZW,mod_eq_of_lt->cIZ,le_refl->bXK,div_eq_of_lt->cCW,lt_of_lt_of_le->bYH,mod_lt->bZR,div_lt_of_lt_mul->cDC,mul_comm->cCI,lt_of_le_of_lt->cEC,pow_le_pow_right->cAI,pow_pos->cAH,mul_le_mul_right->cBK,add_zero->bYI,div_div_eq_div_mul->cCT,zero_le->cCR,mul_zero->cEB,add_mul_div_left->cDI,add_assoc->cAY,zero_add->bXL,mod_add_div->cJC,mul_one->bYB,div_le_self->cDK,add_mul->bZU,exists_eq_add_of_le->bYQ,mul_div_le->cIN,add_sub_cancel->cAF,pow_lt_pow_right->cEE,mul_lt_mul''->cGK,sub_le->cDX,div_one->cJA,add_le_add->cLS,div_le_of_le_mul->cIM,eq_of_beq_eq_true->bXT,mul_left_comm->cEJ,add_mul_mod_self_left->cJP,mul_le_mul->cIC,lt_mul_div_succ->cFX,mul_lt_mul_of_pos_right->cGJ,add_le_add_right->cLT,le_of_ble_eq_true->bZF,lt_succ_self->cJG
open Rat renaming le_of_lt->cCJ,intCast_mul->cEV,le_refl->cDM,intCast_sub->cLB,mul_pos->cCX,intCast_neg->cIX,intCast_add->cIY,mul_comm->cIU,mul_assoc->cEU,intCast_natCast->cEW
open Int renaming toNat_natCast->cBF,natAbs_natCast->cDF,eq_ofNat_of_zero_le->cCM,natAbs_mul->cDE,natAbs_neg->cFM,natAbs_pow->cLP,tmod_eq_emod_of_nonneg->cEG,toNat->cLC,tdiv_eq_ediv_of_nonneg->cEF,natCast_mul->cDY,natCast_ediv->cDA,mul_neg->cGW,add_zero->cJN,pow_pos->cAP,mul_ediv_add_emod->cGY,mul_one->cKO,le_of_lt->cAO,mul_neg_of_neg_of_pos->cHR,mul_pos->cHQ,mul_nonneg->cJI,toNat_of_nonneg->cJS,natCast_nonneg->cHN,natCast_emod->cED,emod_nonneg->cGZ,emod_lt_of_pos->cHA,lt_trichotomy->cLH,natCast_pow->cHH
open List renaming replicate->bZK,getD_eq_getElem?_getD->cCQ,take_length->cEH,getElem?_eq_getElem->bXY,take_set_of_le->cJE,drop->cDH,take->cDG,length_append->bZY,drop_zero->cDT,getElem?_map->bXM,drop_set_of_lt->cJF,length_drop->cEY,length_cons->cAS,length_nil->cAT,length_set->cLQ,length_take->bZC,length_singleton->cLR,append_assoc->bYY,length_replicate->cJD,take_of_length_le->cFG,take_succ_eq_append_getElem->cDR,getElem?_take->cBE,getElem?_drop->bXV
open Bool renaming not_true->bZH,not_false->cJB,and_eq_true->bXN,true_and->cAJ,and_false->cDB,false_and->cCU
namespace Go.Proofs.YtaajbopgknekmaaGreatDoor
open Go.Value(int bool slice)
open AI.S(sc ints)
namespace W
open Go AI M
namespace Mul
def E:=mE [(74,Norm.aJ)] 70 [69] [(8,[0,1,5,6,7,8,9]),(3,[0,1,5,6])] []
def aF:=bd f235
theorem aU:Nk E aF:=nk
def L3 a b (c:Nat) (d:List Int) f:=nN E f235 aF 3 [mK a,mK b,(A.v (V.one (L.buf 2 c)),some { e:=(112:Nat),cont:=oI.ints u32 d }),bK f]
def L8 a b (c:Nat) (d:List Int) f g h x7:=nN E f235 aF 8 [mK a,mK b,(A.v (V.one (L.buf 2 c)),some { e:=(112:Nat),cont:=oI.ints u32 d }),bK f,dM g,dM h,bK x7]
theorem start a b:aG E f235 aF [D.s (ints u32 a),D.s (ints u32 b)]=letI A:=(a.length:Int);letI B:=A+(b.length:Int);if 0<=i64.wrap B/\i64.wrap B<=i64.wrap B/\i64.wrap B<=8796093022208 then Mul.L3 a b (i64.wrap B).toNat (bZK (i64.wrap B).toNat (0:Int)) 0 else none:=eJ aU
theorem tK a b c d e:L3 a b c d e=aD (decide (e<(a.length:Int))) (if 0<=e/\e<(a.length:Int)then Mul.L8 a b c d e 0 (u64.wrap (a.getD e.toNat 0)) 0 else none) (aO (bN d/\d.length<=4398046511104) (some [D.own 112 u32 (dg (val d))])):=lJ aU
theorem yL a b c d e f g h:L8 a b c d e f g h=letI B:=(b.length:Int);letI A:=f+u64.wrap (u64.wrap (d.getD (i64.wrap (e+h)).toNat 0)+u64.wrap (g*u64.wrap (b.getD h.toNat 0)));aD (decide (h<B)) (if 0<=i64.wrap (e+h)/\i64.wrap (e+h)<(c:Int)then if 0<=h/\h<B then if 0<=i64.wrap (e+h)/\i64.wrap (e+h)<(c:Int)then Mul.L8 a b c (d.set (i64.wrap (e+h)).toNat (u32.wrap (fU BinOp.and u64 (u64.wrap A) 4294967295))) e (u64.wrap A/4294967296) g (i64.wrap (h+1))else none else none else none) (if 0<=i64.wrap (e+B)/\i64.wrap (e+B)<(c:Int)then Mul.L3 a b c (d.set (i64.wrap (e+B)).toNat (u32.wrap f)) (i64.wrap (e+1))else none):=lJ aU
theorem lU{a:List Int}{n:Nat}(h:n<a.length)(d:Int):val (a.set n d)+4294967296^n*(a.getD n 0).toNat=val a+4294967296^n*d.toNat:=by
 have h1:=eZ (a.set n d) (n:=n) (by rw[cLQ];omega);have h2:=eZ a (n:=n) (by omega);rw[cJE (bXK n),nP h]at h1;rw[gB]at h2;rw[h1,h2,cCO,cCO];omega
theorem Wz{a:List Int}{n m:Nat}(h:n≠m)(d:Int):(a.set n d).getD m 0=a.getD m 0:=by
 simp only[cCQ];rw[List.getElem?_set_ne h]
theorem inner{a b:List Int}(hb:bN b)(aOU:a.length<=549755813888)(bJJ:b.length<=549755813888){i:Nat}(hi:i<a.length){x:Int}(Kt:0<=x)(aUA:x<4294967296){V:Nat}
  (K:List Int->Option (List D)) (hK:∀p c,bN p->p.length=a.length+b.length->(0<=c/\c<4294967296)->(∀k,i+b.length<=k->p.getD k 0=0)->val p+4294967296^(i+b.length)*c.toNat=V+4294967296^i*(x.toNat*val b)->L3 a b (a.length+b.length) (p.set (i+b.length) c) ((i+1:Nat):Int)=K p) :
  ∀(d j:Nat) (p:List Int) (c:Int),bN p->p.length=a.length+b.length->0<=c->c<4294967296->(∀k,i+b.length<=k->p.getD k 0=0)->j+d=b.length ->
  val p+4294967296^(i+j)*c.toNat=V+4294967296^i*(x.toNat*val (b.take j)) ->
  ∃q,L8 a b (a.length+b.length) p (i:Int) c x (j:Int)=K q:=by
 intro d
 induction d with
 |zero =>
  intro j p c hp hl h0 h1 hz hd hv;have hj:j=b.length:=by omega
  subst hj;rw[cEH]at hv;rw[yL,aN,wrap_i64 (n:=(i:Int)+(b.length:Int)),aT,wrap_u32,Int.emod_eq_of_lt h0 h1,wrap_i64 (n:=(i:Int)+1),show((i:Int)+(b.length:Int)).toNat=i+b.length by omega];exact⟨p,hK p c hp hl ⟨h0,h1⟩ hz hv⟩
 |succ d ih =>
  intro j p c hp hl h0 h1 hz hd hv;have g1:=hb.get j;have g2:=hp.get (i+j);have hm:x*b.getD j 0<=4294967295*4294967295:=by
   have h1:x*b.getD j 0<=4294967295*b.getD j 0:=Int.mul_le_mul_of_nonneg_right (by omega) g1.1;omega
  have aXF:0<=x*b.getD j 0:=cJI Kt g1.1;have e':((i:Int)+(j:Int)).toNat=i+j:=by omega
  rw[yL,aR,wrap_i64 (n:=(i:Int)+(j:Int)),aT,aT,aT,e',cBF,wrap_u64 (n:=p.getD (i+j) 0),wrap_u64 (n:=b.getD j 0),wrap_u64 (n:=x*b.getD j 0),wrap_u64 (n:=p.getD (i+j) 0+x*b.getD j 0),wrap_u64 (n:=c+(p.getD (i+j) 0+x*b.getD j 0)),
   kM (by omega) (by omega),wrap_u32,Int.emod_emod_of_dvd _ (Int.dvd_refl _),wrap_i64 (n:=(j:Int)+1)]
  have hs:=lU (a:=p) (n:=i+j) (by omega) ((c+(p.getD (i+j) 0+x*b.getD j 0))%4294967296);refine ih (j+1) _ _ (kI hp (by omega)) (by rw[cLQ];exact hl) (by omega) (by omega) (fun k hk=>by rw[Wz (by omega)];exact hz k hk) (by omega) ?_;rw[bR,cCO];have et:(x*b.getD j 0).toNat=x.toNat*(b.getD j 0).toNat:=Int.toNat_mul Kt g1.1;have e:4294967296*((c+(p.getD (i+j) 0+x*b.getD j 0))/4294967296).toNat+((c+(p.getD (i+j) 0+x*b.getD j 0))%4294967296).toNat=c.toNat+((p.getD (i+j) 0).toNat+x.toNat*(b.getD j 0).toNat):=by rw[<-et];omega
  have pw:4294967296^(i+(j+1))=4294967296^(i+j)*4294967296:=by rw[<-cAY,cCK]
  have pi:4294967296^i*(x.toNat*(4294967296^j*(b.getD j 0).toNat))=4294967296^(i+j)*(x.toNat*(b.getD j 0).toNat):=by
   rw[cCH,cEJ x.toNat,<-cCN]
  rw[pw,cCO,pi];generalize 4294967296^(i+j)=B at *;generalize (c+(p.getD (i+j) 0+x*b.getD j 0))/4294967296=u at *;generalize (c+(p.getD (i+j) 0+x*b.getD j 0))%4294967296=w at *;have e2:=congrArg (B*·) e;rw[cCO,cCO,cCO]at e2;rw[cCN];omega
theorem outer{a b:List Int}(ha:bN a)(hb:bN b)(aOU:a.length<=549755813888)(bJJ:b.length<=549755813888):∀(d i:Nat) (p:List Int),bN p->p.length=a.length+b.length->(∀k,i+b.length<=k->p.getD k 0=0)->i+d=a.length->val p=val (a.take i)*val b ->
  L3 a b (a.length+b.length) p (i:Int)=some [D.own kW .u32 (dg (val a*val b))]:=by
 intro d
 induction d with
 |zero =>
  intro i p hp hl hz hd hv;rw[tK,aN,gP ⟨hp,by omega⟩,hv,cA (by omega)]
 |succ d ih =>
  intro i p hp hl hz hd hv;have g:=ha.get i;rw[tK,aR,aT,cBF,wrap_u64 (n:=a.getD i 0)];obtain⟨q,hq⟩:=inner (a:=a) (b:=b) hb aOU bJJ (i:=i) (by omega) g.1 g.2 (V:=val p) (fun _=>some [D.own kW .u32 (dg (val a*val b))]) (by
   intro q c hq bGA hc bNR bSQ;have g3:=bNR (i+b.length) (bXK _);have hs:=lU (a:=q) (n:=i+b.length) (by omega) c;rw[g3,show(0:Int).toNat=0 from rfl,cEB,bYI,bSQ]at hs;refine ih (i+1) _ (kI hq hc) (by rw[cLQ];exact bGA) (fun k hk=>by rw[Wz (by omega)];exact bNR k (by omega)) (by omega) ?_;rw[hs,hv,bR,bZU,cCN]) b.length 0 p 0 hp hl (by omega) (by omega) hz (by omega) (by simp[val])
  exact hq
def sp(a b:List Int):Prop×List D:=(bN a/\bN b/\a.length<=549755813888/\b.length<=549755813888,[.own kW .u32 (dg (val a*val b))])
theorem spec:eR E f235 aF (pI .u32) (pI .u32) sp:=by
 rintro a b ⟨ha,hb,h1,h2⟩;refine(start a b).trans ?_;have e:i64.wrap ((a.length:Int)+(b.length:Int))=((a.length+b.length:Nat):Int):=by rw[wrap_i64];omega
 rw[e,aT,cBF];refine outer ha hb h1 h2 a.length 0 _ (gM _) (by simp) (fun k _=>?_) (by omega) (by simp[val,gW]);simp only[cCQ,List.getElem?_replicate];split <;> rfl
def aJ:dG:=orc2 (pI .u32) (pI .u32) sp
theorem ok:OK 235 aJ:=(dZ E aF (aA Norm.ok aE) func235).jR rfl spec
end Mul
namespace aNH
def E:=mE [(235,Mul.aJ),(80,Mk.aJ)] 16 [] [] []
def aF:=bd f214
theorem aU:Nk E aF:=nk
theorem start a b c d:aG E f214 aF [D.agg [sc (bool a),ints u32 b],D.agg [sc (bool c),ints u32 d]]=letI A:=dg (val b*val d);letI B:=zs (a !=c) (val A);aO (bN b/\bN d/\b.length<=549755813888/\d.length<=549755813888) (aO (bN A/\A.length<=4398046511104) (some [D.agg [sc (bool (isNeg B)),ints u32 (dg B.natAbs)]])):=eJ aU
def sp(x y:Bool×List Int):Prop×List D:=(dP x/\dP y,[zD (zv x*zv y)])
theorem spec:eR E f214 aF nM nM sp:=by
 rintro x y ⟨hx,hy⟩;refine(start x.1 x.2 y.1 y.2).trans ?_;have l1:=hx.len;have l2:=hy.len;have hl:(dg (val x.2*val y.2)).length<=x.2.length+y.2.length:=by
  refine cU ?_;rw[cCH];exact Nat.mul_lt_mul_of_lt_of_lt (cR hx.1.gT) (cR hy.1.gT)
 rw[gP ⟨hx.1.gT,hy.1.gT,by omega,by omega⟩,gP ⟨bZ _,by omega⟩,bD];show _=some [zD (zv x*zv y)];have:zs (x.1 !=y.1) (val x.2*val y.2)=zv x*zv y:=by
  unfold zv zs;cases x.1 <;> cases y.1 <;> simp[cDY,Int.neg_mul,cGW]
 rw[this];rfl
def aJ:dG:=orc2 nM nM sp
theorem ok:OK 214 aJ:=(dZ E aF (aA Mul.ok (aA Mk.ok aE)) func214).jR rfl spec
end aNH
namespace yI
def E:=mE [] 11 [] [] []
def aF:=bd f63
theorem aU:Nk E aF:=nk
theorem start a b:aG E f63 aF [D.agg [sc (bool a),ints u32 b]]=aD ((b.length:Int)==(0:Int)) (some [D.s (sc (int i64 0))]) (aD a (some [D.s (sc (int i64 (-1:Int)))]) (some [D.s (sc (int i64 1))])):=eJ aU
def sp(x:Bool×List Int):Prop×List D:=(dP x,[.s (.sc (.int .i64 (cT (zv x) 0)))])
theorem spec:iD E f63 aF nM sp:=by
 intro x h;refine(start x.1 x.2).trans ?_;obtain⟨h1,h2,h3⟩:=h;unfold sp;simp only
 by_cases hz:x.2.length=0
 ·have:=(cX h1).1 hz;rw[cL];cases hx:x.1 with
  |true=>exact(h2 hx this).elim
  |false=>rw[Yr hx,this];rfl
 ·have hv:val x.2≠0:=fun h=>hz ((cX h1).2 h)
  rw[cO];cases hx:x.1 with
  |true=>rw[bT,aVC hx];unfold cT;rw[aT]
  |false=>rw[bF,Yr hx];unfold cT;rw[bG,aT]
def aJ:dG:=orc1 nM sp
theorem ok:OK 63 aJ:=(dZ E aF aE func63).oS rfl spec
end yI
end W
namespace M8
open Go M
def oL(n v:Nat):List Int:=dg v ++ bZK (n-(dg v).length) 0
theorem kZ{n v:Nat}:val (oL n v)=v:=by
 unfold oL;rw[iE,gW,bD];omega
theorem lY{n v:Nat}:bN (oL n v):=lS.2 ⟨bZ _,gM _⟩
theorem iA{n v:Nat}(h:v<4294967296^n):(oL n v).length=n:=by
 have:=cU h;unfold oL;rw[bZY,cJD];omega
theorem oU {a : List Int} {n v : Nat} (h : bN a) (hl : a.length = n) (hv : val a = v) : a = oL n v := by
  subst hl; subst hv
  obtain ⟨k, hk⟩ := Er h
  unfold oL
  have : a.length = (dg (val a)).length + k := by conv => lhs; rw [hk]
                                                  simp
  rw [this, Nat.add_sub_cancel_left]
  exact hk
theorem lU{a:List Int}{j:Nat}(hj:j<a.length)(d:Int):val (a.set j d)+4294967296^j*(a.getD j 0).toNat=val a+4294967296^j*d.toNat:=by
 have h1:=eZ (a.set j d) (n:=j) (by simp;omega);have h2:=eZ a (n:=j) (by omega);rw[nP hj,cJE (bXK j)]at h1;rw[gB (a:=a) j]at h2;rw[h1,h2,cCO,cCO];omega
theorem pY{m n:Nat}(h:m<=n):4294967296^m<=4294967296^n:=cAI (by omega) h
theorem Be{a:List Int}(h:cI a):∀k,cI (a.drop k)
 |0=>h
 |k+1=>by
  match a,h with
  | [],h=>simpa using h
  |d :: a,h=>exact Be (Mj h) k
theorem mJ{a:List Int}(h:bN a)(k:Nat):val (a.take k)=val a%4294967296^k:=by
 by_cases hk:k<=a.length
 ·rw[eZ a hk,cJP,cIZ (fR h k)]
 ·rw[cA (by omega),cIZ];exact bYH (cR h) (pY (by omega))
theorem iL{a:List Int}(h:bN a)(k:Nat):val (a.drop k)=val a/4294967296^k:=by
 by_cases hk:k<=a.length
 ·have h1:=eZ a hk;have h2:=fR h k;rw[h1,cDI _ _ (cB),cCW h2,bXL]
 ·rw[List.drop_of_length_le (by omega),cCW]
  ·rfl
  ·exact bYH (cR h) (pY (by omega))
theorem qM(v o n:Nat):v=v%4294967296^o+4294967296^o*(v/4294967296^o%4294967296^n)+4294967296^(o+n)*(v/4294967296^(o+n)):=by
 have h1:=cJC v (4294967296^o);have h2:=cJC (v/4294967296^o) (4294967296^n);rw[cCT,<-cCH]at h2
 conv=>lhs;rw[<-h1,<-h2]
 rw[cCO,<-cCN,<-cCH];omega
theorem Ar{v v' o n X c:Nat}(h1:v'%4294967296^o=v%4294967296^o)(h2:v'/4294967296^(o+n)=v/4294967296^(o+n))(h:v'+4294967296^o*X=v+4294967296^(o+n)*c) :
  v'/4294967296^o%4294967296^n+X=v/4294967296^o%4294967296^n+4294967296^n*c:=by
 have e1:=qM v o n;have e2:=qM v' o n;rw[h1,h2]at e2;apply Nat.eq_of_mul_eq_mul_left (cAH (n:=o) (by omega:0<4294967296));have e3:4294967296^(o+n)*c=4294967296^o*(4294967296^n*c):=by rw[cCH,cCN]
 rw[e3]at h;rw[cCO,cCO];omega
theorem Ea(v o n:Nat):v/4294967296^o%4294967296^n<4294967296^n:=bZR _ (cB)
theorem Au{z z':List Int}(hd:bN z)(Bm:bN z'){o n:Nat}(h1:z'.take o=z.take o)(h2:z'.drop (o+n)=z.drop (o+n)):val z'%4294967296^o=val z%4294967296^o/\val z'/4294967296^(o+n)=val z/4294967296^(o+n):=by
 rw[<-mJ hd,<-mJ Bm,h1,<-iL hd,<-iL Bm,h2];exact⟨rfl,rfl⟩
end M8
namespace W
open Go AI M
namespace Ff
def E:=mE [] 25 [] [(5,[3,4])] []
def aF:=bd f37
theorem aU:Nk E aF:=nk
def L5 a (b:Int):=nN E f37 aF 5 [bK a,vA (sc (int u32 b))]
theorem start a:aG E f37 aF [D.s (ints u32 a)]=letI A:=(a.length:Int);letI B:=A-(1:Int);aD (A==(0:Int)) (some [D.s (sc (int i64 0))]) (if 0<=i64.wrap B/\i64.wrap B<A then Ff.L5 (i64.wrap ((32:Int)*i64.wrap B)) (a.getD (i64.wrap B).toNat 0)else none):=eJ aU
theorem Dz a b:L5 a b=aD (decide (0<b)) (Ff.L5 (i64.wrap (a+1)) (u32.wrap (b.tdiv 2))) (some [D.s (sc (int i64 a))]):=lJ aU
theorem L:∀(m:Nat) (x w:Int),0<=w->w<2^m->m<=64->w<4294967296->0<=x->x<=4611686018427387904-m->L5 x w=some [D.s (.sc (.int .i64 (x+(bl w.toNat:Nat))))]:=by
 intro m
 induction m with
 |zero =>
  intro x w h0 h1 _ _ hx Ai;have:w=0:=by omega
  subst this;rw[Dz,aN];simp[bl]
 |succ m ih =>
  intro x w h0 h1 hm hw hx Ai;rw[Dz]
  by_cases hz:w=0
  ·subst hz;rw[aN];simp[bl]
  ·have hp:(2:Int)^(m+1)=2*2^m:=by rw[Int.pow_succ];omega
   rw[hp]at h1;rw[aR,cEF h0,oJ (by omega),wrap_i64,ih _ _ (by omega) (by omega) (by omega) (by omega) (by omega) (by omega),aSI (n:=w.toNat) (by omega),show(w/2).toNat=w.toNat/2 from by omega];congr 5;omega
def sp(a:List Int):Prop×List D:=(cI a/\a.length<=4398046511104,[.s (.sc (.int .i64 (bl (val a):Nat)))])
theorem spec:iD E f37 aF (pI .u32) sp:=by
 rintro a ⟨ha,h1⟩;refine(start a).trans ?_;show _=some [D.s (.sc (.int .i64 (bl (val a):Nat)))]
 by_cases hz:a.length=0
 ·rw[cL,(cX ha).1 hz];rfl
 ·have hd:=ha.gT.get (a.length-1);have hv:=bR (a:=a) (a.length-1);rw[show a.length-1+1=a.length from by omega,cA (bXK _)]at hv;have ht:a.getD (a.length-1) 0≠0:=by
   have:=getLast_take (a:=a) (n:=a.length-1) (by omega);rw[show a.length-1+1=a.length from by omega,cEH]at this;exact ha.top this
  have e:((a.length:Int)-1).toNat=a.length-1:=by omega
  rw[cO,wrap_i64 (n:=(a.length:Int)-1),aT,e,wrap_i64,
   L 32 _ _ hd.1 (by omega) (by omega) hd.2 (by omega) (by omega),hv,Iy,Bq (by rw[<-Iy];exact fR ha.gT _) (by omega)]
  congr 5;omega
def aJ:dG:=orc1 (pI .u32) sp
theorem ok:OK 37 aJ:=(dZ E aF aE func37).oS rfl spec
end Ff
namespace tM
def E:Env:={ ({ base with n0:=1,io:=[0] })with nt:=119,own:=[],keep:=fun k=>(tlook [(22,[0,1,5,7,8,9,13]),(18,[0,1,5,7,9]),(6,[0,1,5,7,8,9,10])] k).getD [],cut:=tlook [(10,[0,1,5,7,8,9,10]),(27,[0,1,5,7,8,9,13])] }
def aF:=bd f246
theorem aU:Nk E aF:=nk
def L6(a:List Int)(b:Nat)(c:Nat) d f g h x7 i:=nN E f246 aF 6 [(A.any,some { e:=(112:Nat),cont:=oI.ints u32 a }),(A.v (V.one (L.view 0 b c)),none),mK d,bK f,dM g,dM h,dM x7,bK i]
def Vb(a:List Int)(b:Nat)(c:Nat) d f g h x7 i:=lE E f246 aF 10 [(A.any,some { e:=(112:Nat),cont:=oI.ints u32 a }),(A.v (V.one (L.view 0 b c)),none),mK d,bK f,dM g,dM h,dM x7,bK i]
def bBI(a:List Int)(b:Nat)(c:Nat) d f g h:=nN E f246 aF 18 [(A.any,some { e:=(112:Nat),cont:=oI.ints u32 a }),(A.v (V.one (L.view 0 b c)),none),mK d,bK f,dM g,dM h]
def bGX(a:List Int)(b:Nat)(c:Nat) d f g h x7 i:=nN E f246 aF 22 [(A.any,some { e:=(112:Nat),cont:=oI.ints u32 a }),(A.v (V.one (L.view 0 b c)),none),mK d,bK f,dM g,dM h,dM x7,bK i]
def bMH(a:List Int)(b:Nat)(c:Nat) d f g h x7 i:=lE E f246 aF 27 [(A.any,some { e:=(112:Nat),cont:=oI.ints u32 a }),(A.v (V.one (L.view 0 b c)),none),mK d,bK f,dM g,dM h,dM x7,bK i]
theorem start al ao an b:aG E f246 aF [D.io kW u32 al ao an,D.s (ints u32 b)]=letI A:=(b.length:Int);letI F:=A-(1:Int);letI C:=b.getD (i64.wrap F).toNat 0;letI B:=u64.wrap (u64.wrap (u64.wrap (al.getD (ao+A.toNat) 0)*4294967296)+u64.wrap (al.getD (ao+(i64.wrap F).toNat) 0));letI G:=B.tdiv (u64.wrap C);if 0<=A/\A<(an:Int)then if 0<=i64.wrap F/\i64.wrap F<(an:Int)then if 0<=i64.wrap F/\i64.wrap F<A then if u64.wrap C=0 then none else tM.L6 al ao an b A (if 4294967295<u64.wrap G then(4294967295:Int)else u64.wrap G) 0 0 0 else none else none else none:=eJ aU
theorem qW a b c d e f g h i:L6 a b c d e f g h i=aD (decide (i<=e)) (aD (decide (i<e)) (if 0<=i/\i<(d.length:Int)then tM.Vb a b c d e f (u64.wrap (g+u64.wrap (f*u64.wrap (d.getD i.toNat 0)))) h i else none) (tM.Vb a b c d e f g h i)) (tM.bBI a b c d e f h):=lJ aU
theorem Fc a b c d e f g h i:Vb a b c d e f g h i=letI C:=b+i.toNat;letI B:=a.getD C 0;letI A:=fU BinOp.and u64 g 4294967295+h;if 0<=i/\i<(c:Int)then aD (decide (u64.wrap B<u64.wrap A)) (if 0<=i/\i<(c:Int)then tM.L6 (a.set C (u32.wrap (u64.wrap (u64.wrap (u64.wrap B+4294967296)-u64.wrap A)))) b c d e f (g/4294967296) 1 (i64.wrap (i+1))else none) (if 0<=i/\i<(c:Int)then tM.L6 (a.set C (u32.wrap (u64.wrap (u64.wrap B-u64.wrap A)))) b c d e f (g/4294967296) 0 (i64.wrap (i+1))else none)else none:=cJ aU
theorem aNU a b c d e f g:bBI a b c d e f g=aD (decide (0<g)) (tM.bGX a b c d e (u64.wrap (f-1)) 0 g 0) (some [D.s (sc (int u32 (u32.wrap f))),D.io 112 u32 a 0 0]):=lJ aU
theorem aBE a b c d e f g h i:bGX a b c d e f g h i=letI A:=g+u64.wrap (a.getD (b+i.toNat) 0);aD (decide (i<=e)) (if 0<=i/\i<(c:Int)then aD (decide (i<e)) (if 0<=i/\i<(d.length:Int)then tM.bMH a b c d e f (u64.wrap (u64.wrap A+u64.wrap (d.getD i.toNat 0))) h i else none) (tM.bMH a b c d e f (u64.wrap A) h i)else none) (tM.bBI a b c d e f (u64.wrap (h-if g<h then g else h))):=lJ aU
theorem aOC a b c d e f g h i:bMH a b c d e f g h i=if 0<=i/\i<(c:Int)then tM.bGX (a.set (b+i.toNat) (u32.wrap (fU BinOp.and u64 g 4294967295))) b c d e f (g/4294967296) h (i64.wrap (i+1))else none:=cJ aU
theorem digit{z:List Int}(hd:bN z)(k:Nat):(z.getD k 0).toNat=val z/4294967296^k%4294967296:=by
 rw[<-iL hd,gB];have:=hd.get k;omega
theorem yS{v j n:Nat}(h:v/4294967296^j<4294967296^n):v/4294967296^j%4294967296^n=v/4294967296^j:=cIZ h
theorem minus{v j R X:Nat}(hR:R=v/4294967296^j)(hX:X<=R):(v-4294967296^j*X)/4294967296^j=R-X/\4294967296^j*X<=v:=by
 have h1:=cJC v (4294967296^j);have h2:v%4294967296^j<4294967296^j:=bZR _ (cB);rw[<-hR]at h1;obtain⟨D,rfl⟩:=bYQ hX;rw[cCO]at h1;have h3:v-4294967296^j*X=v%4294967296^j+4294967296^j*D:=by omega
 rw[h3,cDI _ _ (cB),cCW h2];omega
theorem plus{v j n R X:Nat}(hR:R=v/4294967296^j)(hX:R<X)(aLM:X<=4294967296^n):(v+4294967296^(j+n)-4294967296^j*X)/4294967296^j%4294967296^n=R+4294967296^n-X:=by
 have h1:=cJC v (4294967296^j);have h2:v%4294967296^j<4294967296^j:=bZR _ (cB);rw[<-hR]at h1;have h4:4294967296^j*(R+4294967296^n)=4294967296^j*R+4294967296^(j+n):=by rw[cCO,cCH]
 obtain⟨D,hD⟩:∃D,R+4294967296^n=X+D:=bYQ (by omega);rw[hD,cCO]at h4;have h3:v+4294967296^(j+n)-4294967296^j*X=v%4294967296^j+4294967296^j*D:=by omega
 rw[h3,cDI _ _ (cB),cCW h2,bXL,cIZ (by omega)];omega
def Fg(v o n X:Nat):Nat:=if v/4294967296^o%4294967296^n<X then 1 else 0
theorem bLF{a z':List Int}{o n X c N:Nat}(aXU:c<=1)(hd:bN a)(Bm:bN z')(hl:z'.length=N)(h1:z'.take o=a.take o)(h2:z'.drop (o+n)=a.drop (o+n))(h:val z'+4294967296^o*X=val a+4294967296^(o+n)*c) :
  c=Fg (val a) o n X/\z'=M8.oL N (val a+4294967296^(o+n)*Fg (val a) o n X-4294967296^o*X):=by
 obtain⟨k1,k2⟩:=M8.Au hd Bm h1 h2;have e:=M8.Ar k1 k2 h;have jM:=M8.Ea (val z') o n;have hc:c=Fg (val a) o n X:=by
  unfold Fg;have:c=0\/c=1:=by omega
  rcases this with rfl |rfl
  ·rw[bG]
  ·rw[aT]
 subst hc;exact⟨rfl,M8.oU Bm hl (by omega)⟩
theorem aZC{v o n N X:Nat}(hv:v<4294967296^N)(bNV:o+n<=N)(hX:X<4294967296^n):v+4294967296^(o+n)*Fg v o n X-4294967296^o*X<4294967296^N:=by
 have e1:=M8.qM v o n;have hW:=M8.Ea v o n;have hT:v/4294967296^(o+n)<4294967296^(N-(o+n)):=by
  apply cDC;rw[<-cCH,show o+n+(N-(o+n))=N from by omega];exact hv
 have hL:v%4294967296^o<4294967296^o:=bZR _ (cB);have s2:4294967296^(o+n)*(v/4294967296^(o+n)+1)<=4294967296^N:=by
  have:=bZW (4294967296^(o+n)) hT;rw[<-cCH,show o+n+(N-(o+n))=N from by omega]at this;exact this
 rw[cCO]at s2;unfold Fg;generalize v/4294967296^o%4294967296^n=W at *;generalize v%4294967296^o=L at *;generalize v/4294967296^(o+n)=T at *;split
 ·rename_i jM;have:4294967296^o*(W+1)<=4294967296^o*X:=bZW _ jM;rw[cCO]at this;omega
 ·omega
def Ha(v o n X:Nat):Nat:=(v/4294967296^o%4294967296^n+X)/4294967296^n
theorem bLG{a z':List Int}{o n X c N:Nat}(hd:bN a)(Bm:bN z')(hl:z'.length=N)(h1:z'.take o=a.take o)(h2:z'.drop (o+n)=a.drop (o+n))(h:val z'+4294967296^(o+n)*c=val a+4294967296^o*X) :
  c=Ha (val a) o n X/\z'=M8.oL N (val a+4294967296^o*X-4294967296^(o+n)*Ha (val a) o n X):=by
 obtain⟨k1,k2⟩:=M8.Au hd Bm h1 h2;have e:=M8.Ar k1.symm k2.symm h.symm;have jM:=M8.Ea (val z') o n;have hc:c=Ha (val a) o n X:=by
  unfold Ha;rw[e];rw[cDI _ _ (cB),cCW jM,bXL]
 subst hc;exact⟨rfl,M8.oU Bm hl (by omega)⟩
def sp(x:List Int×Nat×Nat)(b:List Int):Prop×List D:=(bN x.1/\x.2.2=b.length+1/\x.2.1+x.2.2<=x.1.length/\bN b/\0<b.length/\x.1.length<=549755813888/\2147483648<=b.getD (b.length-1) 0/\val x.1/4294967296^x.2.1<4294967296*val b,
 [.s (.sc (.int .u32 ((val x.1/4294967296^x.2.1/val b:Nat):Int))),.io kW .u32 (M8.oL x.1.length (val x.1-4294967296^x.2.1*(val b*(val x.1/4294967296^x.2.1/val b)))) 0 0])
theorem bXC{a b:List Int}{o:Nat}{w:Int}(hN:a.length<=549755813888)(ha:bN a)(hb:bN b)(ho:o+(b.length+1)<=a.length)(Zr:0<=w)(bFW:w<4294967296):∀(r i:Nat) (z:List Int) (C s:Int),i+r=b.length->z.length=a.length->bN z->0<=C->C<4294967296->0<=s->s<=1->z.take o=a.take o->z.drop (o+(b.length+1))=a.drop (o+(b.length+1)) ->
  val z+4294967296^o*(val (b.take i)*w.toNat)=val a+4294967296^(o+i)*(C.toNat+s.toNat) ->
  L6 z o (b.length+1) b b.length w C s i=bBI (M8.oL a.length (val a+4294967296^(o+(b.length+1))*Fg (val a) o (b.length+1) (val b*w.toNat)-4294967296^o*(val b*w.toNat))) o (b.length+1) b b.length w (Fg (val a) o (b.length+1) (val b*w.toNat):Nat):=by
 have J:∀(i:Nat) (z:List Int) (p s:Int),i<=b.length->z.length=a.length->bN z->0<=p->p<18446744073709551616->0<=s->s<=1 ->
   ∃(d s':Int),Vb z o (b.length+1) b b.length w p s i=L6 (z.set (o+i) d) o (b.length+1) b b.length w (p/4294967296) s' ((i+1:Nat):Int)/\0<=d/\d<4294967296/\0<=s'/\s'<=1/\d+p%4294967296+s=z.getD (o+i) 0+4294967296*s':=by
  intro i z p s hi hz hd h0 h1 h2 h3;have g:=hd.get (o+i);have w2:i64.wrap ((i:Int)+1)=((i+1:Nat):Int):=by rw[wrap_i64];omega
  rw[Fc,aT,cBF,wrap_u64 (n:=z.getD (o+i) 0),kM h0 h1,wrap_u64 (n:=p%4294967296+s),w2]
  by_cases hc:z.getD (o+i) 0<p%4294967296+s
  ·rw[aR hc,aT,wrap_u64 (n:=z.getD (o+i) 0+4294967296),wrap_u64 (n:=z.getD (o+i) 0+4294967296-(p%4294967296+s)),oJ (by omega)];exact⟨_,1,rfl,by omega,by omega,by omega,by omega,by omega⟩
  ·rw[aN hc,aT,wrap_u64 (n:=z.getD (o+i) 0-(p%4294967296+s)),oJ (by omega)];exact⟨_,0,rfl,by omega,by omega,by omega,by omega,by omega⟩
 intro r
 induction r with
 |zero =>
  intro i z C s hi hz hd h0 h1 h2 h3 ht Pp hv;have aLA:i=b.length:=by omega
  subst aLA;rw[cEH]at hv;obtain⟨d,s',e,d0,d1,s0,s1,hs⟩:=J b.length z C s (bXK _) hz hd h0 (by omega) h2 h3;rw[qW,aR,aN,e,qW,aN];have aWW:=M8.lU (a:=z) (j:=o+b.length) (by omega) d;have gx:=(hd.get (o+b.length)).1;have hf:=bLF (a:=a) (z':=z.set (o+b.length) d) (o:=o) (n:=b.length+1) (X:=val b*w.toNat) (c:=s'.toNat) (N:=a.length) (by omega) ha (kI hd ⟨d0,d1⟩) (by simp[hz]) (by rw[cJE (by omega)];exact ht) (by rw[cJF (by omega)];exact Pp) (by
   rw[<-cAY o,cCK,cCN];generalize z.getD (o+b.length) 0=x at *;generalize val (z.set (o+b.length) _)=W at *;generalize 4294967296^(o+b.length)=P at *;have hc:C%4294967296=C:=by omega
   have e1:d.toNat+(C.toNat+s.toNat)=x.toNat+4294967296*s'.toNat:=by omega
   have e2:P*d.toNat+P*(C.toNat+s.toNat)=P*x.toNat+P*(4294967296*s'.toNat):=by
    rw[<-cCO,e1,cCO]
   omega)
  rw[<-hf.2,<-hf.1,cJS s0]
 |succ r ih =>
  intro i z C s hi hz hd h0 h1 h2 h3 ht Pp hv;have g2:=hb.get i;obtain⟨X,hX⟩:=cCM g2.1;obtain⟨Y,hY⟩:=cCM Zr;have bGP:Y*X<=18446744065119617025:=by
   have h2:X<=4294967295:=by omega
   have h3:Y<=4294967295:=by omega
   have:=cIC h3 h2;omega
  have hq:w*b.getD i 0=((Y*X:Nat):Int):=by rw[hX,hY];simp
  have wb:u64.wrap (C+u64.wrap (w*u64.wrap (b.getD i 0)))=C+((Y*X:Nat):Int):=by
   rw[wrap_u64 (n:=b.getD i 0),hq,wrap_u64 (n:=((Y*X:Nat):Int)),wrap_u64]
  rw[qW,aR,aR,aT,cBF,wb];obtain⟨d,s',e,d0,d1,s0,s1,hs⟩:=J i z (C+((Y*X:Nat):Int)) s (by omega) hz hd (by omega) (by omega) h2 h3;rw[e];refine ih (i+1) _ _ s' (by omega) (by simp[hz]) (kI hd ⟨d0,d1⟩) (by omega) (by omega) s0 s1 (by rw[cJE (by omega)];exact ht) (by rw[cJF (by omega)];exact Pp) ?_;have aWW:=M8.lU (a:=z) (j:=o+i) (by omega) d;have e0:4294967296^o*(val (b.take (i+1))*w.toNat)=4294967296^o*(val (b.take i)*w.toNat)+4294967296^(o+i)*(Y*X):=by
   rw[bR,hX,hY,cBF,cBF,bZU,cCO,cCH,cCN,cCN,cCI X Y]
  have gx:=(hd.get (o+i)).1;rw[e0,show o+(i+1)=(o+i)+1 from by omega,cCK,cCN];generalize Y*X=q at *;generalize z.getD (o+i) 0=x at *;generalize 4294967296^(o+i)=P at *;generalize val (z.set (o+i) d)=W at *;generalize 4294967296^o*(val (b.take i)*w.toNat)=U at *;have e2:P*d.toNat+P*q+P*(C.toNat+s.toNat)=P*x.toNat+P*(4294967296*(((C+(q:Int))/4294967296).toNat+s'.toNat)):=by
   rw[<-cCO,<-cCO,<-cCO];congr 1;omega
  omega
theorem bMB{a b:List Int}{o:Nat}{w x7:Int}(hN:a.length<=549755813888)(ha:bN a)(hb:bN b)(ho:o+(b.length+1)<=a.length):∀(r i:Nat) (z:List Int) (c:Int),i+r=b.length->z.length=a.length->bN z->0<=c->c<=1->z.take o=a.take o->z.drop (o+(b.length+1))=a.drop (o+(b.length+1)) ->
  val z+4294967296^(o+i)*c.toNat=val a+4294967296^o*val (b.take i) ->
  bGX z o (b.length+1) b b.length w c x7 i=bBI (M8.oL a.length (val a+4294967296^o*val b-4294967296^(o+(b.length+1))*Ha (val a) o (b.length+1) (val b))) o (b.length+1) b b.length w (u64.wrap (x7-if(Ha (val a) o (b.length+1) (val b):Int)<x7 then(Ha (val a) o (b.length+1) (val b):Int)else x7)):=by
 intro r
 induction r with
 |zero =>
  intro i z c hi hz hd h0 h1 ht Pp hv;have aLA:i=b.length:=by omega
  subst aLA;rw[cEH]at hv;have g:=hd.get (o+b.length);have w2:i64.wrap ((b.length:Int)+1)=((b.length+1:Nat):Int):=by rw[wrap_i64];omega
  rw[aBE,aR,aT,aN,cBF,wrap_u64 (n:=z.getD (o+b.length) 0),wrap_u64 (n:=c+z.getD (o+b.length) 0),aOC,aT,cBF,kM (by omega) (by omega),oJ (by omega),w2,aBE,aN];have hs:=M8.lU (a:=z) (j:=o+b.length) (by omega) ((c+z.getD (o+b.length) 0)%4294967296);have hf:=bLG (a:=a) (z':=z.set (o+b.length) ((c+z.getD (o+b.length) 0)%4294967296)) (o:=o) (n:=b.length+1) (X:=val b) (c:=((c+z.getD (o+b.length) 0)/4294967296).toNat) (N:=a.length) ha (kI hd (by omega)) (by simp[hz]) (by rw[cJE (by omega)];exact ht) (by rw[cJF (by omega)];exact Pp) (by
   rw[<-cAY o,cCK,cCN];generalize z.getD (o+b.length) 0=x at *;generalize val (z.set (o+b.length) _)=W at *;generalize 4294967296^(o+b.length)=P at *;have e:((c+x)%4294967296).toNat+4294967296*((c+x)/4294967296).toNat=x.toNat+c.toNat:=by omega
   have e2:P*((c+x)%4294967296).toNat+P*(4294967296*((c+x)/4294967296).toNat)=P*x.toNat+P*c.toNat:=by
    rw[<-cCO,e,cCO]
   omega)
  rw[<-hf.2,<-hf.1,cJS (by omega)]
 |succ r ih =>
  intro i z c hi hz hd h0 h1 ht Pp hv;have g:=hd.get (o+i);have g2:=hb.get i;have w2:i64.wrap ((i:Int)+1)=((i+1:Nat):Int):=by rw[wrap_i64];omega
  rw[aBE,aR,aT,aR,aT,cBF,wrap_u64 (n:=z.getD (o+i) 0),wrap_u64 (n:=c+z.getD (o+i) 0),wrap_u64 (n:=b.getD i 0),wrap_u64,aOC,aT,cBF,kM (by omega) (by omega),oJ (by omega),w2];refine ih (i+1) _ _ (by omega) (by simp[hz]) (kI hd (by omega)) (by omega) (by omega) (by rw[cJE (by omega)];exact ht) (by rw[cJF (by omega)];exact Pp) ?_;have hs:=M8.lU (a:=z) (j:=o+i) (by omega) ((c+z.getD (o+i) 0+b.getD i 0)%4294967296);rw[bR,cCO,<-cCN,<-cCH,show o+(i+1)=(o+i)+1 from by omega,cCK,cCN];generalize z.getD (o+i) 0=x at *;generalize b.getD i 0=y at *;generalize val (z.set (o+i) _)=W at *;generalize 4294967296^(o+i)=P at *;generalize 4294967296^o*val (b.take i)=U at *;have e:((c+x+y)%4294967296).toNat+4294967296*((c+x+y)/4294967296).toNat=x.toNat+y.toNat+c.toNat:=by omega
  have e2:P*((c+x+y)%4294967296).toNat+P*(4294967296*((c+x+y)/4294967296).toNat)=P*x.toNat+P*y.toNat+P*c.toNat:=by
   rw[<-cCO,e,cCO,cCO]
  omega
theorem bMD{u b:List Int}{L j R q:Nat}(hL:L<=549755813888)(hu:u.length=L)(hd:bN u)(hb:bN b)(hj:j+(b.length+1)<=L)(hR:R=val u/4294967296^j)(aAB:R<4294967296^(b.length+1))(hV:0<val b)(hq:q=R/val b):∀(k w:Nat),w=q+k->w<4294967296 ->
  bBI (M8.oL L (val u+4294967296^(j+(b.length+1))*(if k=0 then 0 else 1)-4294967296^j*(val b*w))) j (b.length+1) b b.length w (if k=0 then 0 else 1)=some [.s (.sc (.int .u32 (q:Int))),.io kW .u32 (M8.oL L (val u-4294967296^j*(val b*q))) 0 0]:=by
 have aOY:=cR hb;have aUG:val b*q<=R:=by rw[hq];exact cIN _ _
 have aFX:R<val b*(q+1):=by rw[hq];exact cFX _ hV
 have aOS:=cR hd;rw[hu]at aOS;intro k
 induction k with
 |zero =>
  intro w hw bAL;subst hw;rw[if_pos rfl,if_pos rfl,aNU,aN (by decide),bYI,cEB,bYI,oJ (by omega)]
 |succ k ih =>
  intro w hw bAL;subst hw;rw[bG,bG,bYB];have aKY:R<val b*(q+(k+1)):=bYH aFX (bZW _ (by omega));have Wm:val b*(q+(k+1))=val b*(q+k)+val b:=by rw[<-cAY q,Nat.mul_succ]
  have aLM:val b*(q+(k+1))<=4294967296^(b.length+1):=by
   rw[cCK];exact cIC (by omega) (by omega)
  have Zu:=plus (n:=b.length+1) hR (X:=val b*(q+(k+1))) aKY aLM;have aXX:val u+4294967296^(j+(b.length+1))-4294967296^j*(val b*(q+(k+1)))<4294967296^L:=by
   have:=aZC aOS hj (X:=val b*(q+(k+1))) (by rw[cCK];exact cGK aOY (by omega));unfold Fg at this;rw[yS (by rw[<-hR];exact aAB),<-hR,if_pos aKY,bYB]at this;exact this
  have w1:u64.wrap (((q+(k+1):Nat):Int)-1)=((q+k:Nat):Int):=by rw[wrap_u64];omega
  have hl:=M8.iA aXX;have e3:4294967296^j*(val b*(q+(k+1)))<=4294967296^(j+(b.length+1)):=by
   rw[cCH];exact bZW _ aLM
  have e1:4294967296^j*(val b*(q+(k+1)))=4294967296^j*(val b*(q+k))+4294967296^j*val b:=by rw[Wm,cCO]
  rw[aNU,aR (by decide),w1];have dA:bN (M8.oL L (val u+4294967296^(j+(b.length+1))-4294967296^j*(val b*(q+(k+1))))):=M8.lY;have vA:val (M8.oL L (val u+4294967296^(j+(b.length+1))-4294967296^j*(val b*(q+(k+1)))))=val u+4294967296^(j+(b.length+1))-4294967296^j*(val b*(q+(k+1))):=M8.kZ;generalize M8.oL L (val u+4294967296^(j+(b.length+1))-4294967296^j*(val b*(q+(k+1))))=A at *;have step:=bMB (a:=A) (b:=b) (o:=j) (w:=((q+k:Nat):Int)) (x7:=1) (by omega) dA hb (by omega) b.length 0 A 0 (by omega) rfl dA (by omega) (by omega) rfl rfl (by rw[List.take_zero];show val A+_*0=val A+_*0;rw[cEB,cEB]);rw[hl,vA,show((0:Nat):Int)=0 from rfl]at step;rw[step]
  by_cases hk:k=0
  ·subst hk;have Zy:Ha (val u+4294967296^(j+(b.length+1))-4294967296^j*(val b*(q+(0+1)))) j (b.length+1) (val b)=1:=by
    unfold Ha;rw[Zu];have e:R+4294967296^(b.length+1)-val b*(q+(0+1))+val b=4294967296^(b.length+1)*1+(R-val b*q):=by
     rw[cCO]at aLM ⊢;omega
    have jM:R-val b*q<4294967296^(b.length+1):=by omega
    rw[e,Nat.mul_add_div (cB),cCW jM]
   rw[Zy,bYB];have i0:=ih (q+0) rfl (by omega);rw[if_pos rfl,if_pos rfl,cEB,bYI]at i0;have wz:u64.wrap (1-if((1:Nat):Int)<1 then((1:Nat):Int)else 1)=0:=by
    rw[if_neg (by decide),wrap_u64];rfl
   rw[wz];have e4:val u+4294967296^(j+(b.length+1))-4294967296^j*(val b*(q+(0+1)))+4294967296^j*val b-4294967296^(j+(b.length+1))=val u-4294967296^j*(val b*(q+0)):=by
    have e2:=(minus hR aUG).2;have e5:q+0=q:=rfl;rw[e5]at e1 ⊢;omega
   rw[e4];exact i0
  ·have Zy:Ha (val u+4294967296^(j+(b.length+1))-4294967296^j*(val b*(q+(k+1)))) j (b.length+1) (val b)=0:=by
    unfold Ha;rw[Zu];refine cCW ?_;have:R<val b*(q+k):=bYH aFX (bZW _ (by omega));omega
   rw[Zy,cEB];have i0:=ih (q+k) rfl (by omega);rw[if_neg hk,if_neg hk,bYB]at i0;have wz:u64.wrap (1-if((0:Nat):Int)<1 then((0:Nat):Int)else 1)=1:=by
    rw[if_pos (by decide),wrap_u64];rfl
   rw[wz];have e4:val u+4294967296^(j+(b.length+1))-4294967296^j*(val b*(q+(k+1)))+4294967296^j*val b-0=val u+4294967296^(j+(b.length+1))-4294967296^j*(val b*(q+k)):=by omega
   rw[e4];exact i0
theorem spec(x:List Int×Nat×Nat)(b:List Int)(h:(sp x b).1):aG E f246 aF [(Ej kW .u32).put x,(pI .u32).put b]=some (sp x b).2/\∃rs oN,(sp x b).2=rs ++ [.io kW .u32 oN 0 0]/\oN.length=x.1.length:=by
 obtain⟨xl,o,n⟩:=x;obtain⟨hd,hn,ho,hb,hb0,hN,aXW,hR⟩:=h;simp only at hd hn ho hN hR;subst hn;obtain⟨R,aYC⟩:∃R,R=val xl/4294967296^o:=⟨_,rfl⟩;have aOY:=cR hb;have hV:0<val b:=by
  have:=bR (a:=b) (b.length-1);rw[show b.length-1+1=b.length by omega,cEH]at this;have hp:0<4294967296^(b.length-1):=cB;have:4294967296^(b.length-1)*1<=4294967296^(b.length-1)*(b.getD (b.length-1) 0).toNat:=bZW _ (by omega);omega
 rw[<-aYC]at hR;have aAB:R<4294967296^(b.length+1):=by rw[cCK];omega
 have bSB:=cR hd;refine⟨(start xl o (b.length+1) b).trans ?_,[_],_,rfl,M8.iA (cEC (cDX _ _) bSB)⟩;have g1:=hd.get (o+b.length);have g2:=hd.get (o+(b.length-1));have g3:=hb.get (b.length-1);have Wv:(xl.getD (o+b.length) 0).toNat=R/4294967296^b.length:=by
  rw[digit hd,cCH,<-cCT,<-aYC,cIZ];apply cDC;rw[cCK]at aAB;exact aAB
 have Uz:(xl.getD (o+(b.length-1)) 0).toNat=R/4294967296^(b.length-1)%4294967296:=by
  rw[digit hd,cCH,<-cCT,<-aYC]
 have aLF:(b.getD (b.length-1) 0).toNat=val b/4294967296^(b.length-1):=by
  rw[digit hb,cIZ];apply cDC;rw[<-cCK,show(b.length-1).succ=b.length from by omega];exact aOY
 have w1:i64.wrap ((b.length:Int)-1)=((b.length-1:Nat):Int):=by rw[wrap_i64];omega
 obtain⟨t,ht⟩:∃t:Nat,t=((xl.getD (o+b.length) 0).toNat*4294967296+(xl.getD (o+(b.length-1)) 0).toNat)/(b.getD (b.length-1) 0).toNat:=⟨_,rfl⟩;obtain⟨w,hw⟩:∃w:Nat,w=if 4294967295<t then 4294967295 else t:=⟨_,rfl⟩
 have bAL:w<4294967296:=by rw[hw];split <;> omega
 have Ao:R/val b<=w:=by
  have hq:R/val b<4294967296:=by
   apply cDC;rw[cCI];exact hR
  have bFY:R/val b<=t:=by
   obtain⟨k,hk⟩:∃k,b.length=k+1:=⟨b.length-1,by omega⟩;rw[hk,cAF]at Uz aLF;rw[hk]at Wv;have e1:(xl.getD (o+b.length) 0).toNat*4294967296+(xl.getD (o+(b.length-1)) 0).toNat=R/4294967296^k:=by
    rw[hk,cAF,Wv,Uz,cCK,<-cCT];omega
   rw[ht,e1,hk,cAF,cCT];apply Nat.div_le_div_left
   ·rw[aLF];exact cIN _ _
   ·refine Nat.mul_pos (cB) ?_;have:=aXW;rw[hk,cAF]at this;omega
  rw[hw];split <;> omega
 obtain⟨x1,aUA⟩:=cCM g1.1;obtain⟨x2,aDK⟩:=cCM g2.1;obtain⟨x3,bII⟩:=cCM g3.1;have ew:(if 4294967295<u64.wrap ((u64.wrap (u64.wrap (u64.wrap (xl.getD (o+b.length) 0)*4294967296)+u64.wrap (xl.getD (o+(b.length-1)) 0))).tdiv (u64.wrap (b.getD (b.length-1) 0)))then(4294967295:Int)else u64.wrap ((u64.wrap (u64.wrap (u64.wrap (xl.getD (o+b.length) 0)*4294967296)+u64.wrap (xl.getD (o+(b.length-1)) 0))).tdiv (u64.wrap (b.getD (b.length-1) 0))))=(w:Int):=by
  have et:u64.wrap ((u64.wrap (u64.wrap (u64.wrap (xl.getD (o+b.length) 0)*4294967296)+u64.wrap (xl.getD (o+(b.length-1)) 0))).tdiv (u64.wrap (b.getD (b.length-1) 0)))=(t:Int):=by
   rw[wrap_u64 (n:=xl.getD (o+b.length) 0),wrap_u64 (n:=xl.getD (o+b.length) 0*4294967296),wrap_u64 (n:=xl.getD (o+(b.length-1)) 0),wrap_u64 (n:=b.getD (b.length-1) 0),wrap_u64 (n:=xl.getD (o+b.length) 0*4294967296+xl.getD (o+(b.length-1)) 0),cEF (by omega)];rw[ht,aUA,aDK,bII,cBF,cBF,cBF];have e:(x1:Int)*4294967296+(x2:Int)=((x1*4294967296+x2:Nat):Int):=by omega
   rw[e,<-cDA];have hle:(x1*4294967296+x2)/x3<=x1*4294967296+x2:=cDK _ _;have hQ:(x1*4294967296+x2)/x3<18446744073709551616:=by omega
   clear hle ht hw bAL Ao;generalize (x1*4294967296+x2)/x3=Q at hQ ⊢;have bVE:(Q:Int)<18446744073709551616:=by omega
   exact aFD ⟨cHN _,bVE⟩
  rw[et,hw];clear ht hw Ao et;split <;> split <;> omega
 rw[aT,w1,aT,aT,cBF,cBF,if_neg (by rw[wrap_u64];omega),ew];have l6:=bXC (a:=xl) (b:=b) (o:=o) (w:=(w:Int)) hN hd hb ho (by omega) (by omega) b.length 0 xl 0 0 (by omega) rfl hd (by omega) (by omega) (by omega) (by omega) rfl rfl (by simp[val]);rw[cBF]at l6;refine Eq.trans l6 ?_;obtain⟨k,hk⟩:=bYQ Ao;have bRQ:=bMD (u:=xl) (b:=b) (L:=xl.length) (j:=o) (R:=R) (q:=R/val b) hN rfl hd hb ho aYC aAB hV rfl k w hk bAL;have ho:Fg (val xl) o (b.length+1) (val b*w)=if k=0 then 0 else 1:=by
  unfold Fg;rw[yS (by rw[<-aYC];exact aAB),<-aYC];have e:=cIN R (val b);have e2:=cFX R hV
  by_cases h0:k=0
  ·rw[if_pos h0,if_neg];rw[hk,h0,bYI];omega
  ·rw[if_neg h0,if_pos];refine bYH e2 (bZW _ (by omega))
 rw[ho];unfold sp;dsimp only;rw[<-aYC];have ec:((if k=0 then 0 else 1:Nat):Int)=if k=0 then 0 else 1:=by split <;> rfl
 rw[ec];exact bRQ
def aJ:dG:=orc2 (Ej kW .u32) (pI .u32) sp
theorem fnok:nJ prog E 246 f246 aF:=vR oA mixed (iH _ rfl aE (lA)) func246 rfl rfl rfl rfl rfl
theorem ok:rW prog base.glob 246 aJ:=fnok.jR rfl spec
end tM
namespace DivMod
def E:Env:={ ({ base with C:=rP [(246,tM.aJ)] (callsOf [(82,vV.aJ),(200,aOJ.aJ),(74,Norm.aJ),(218,pA.aJ),(37,Ff.aJ),(121,aPD.aJ),(232,aZI.aJ)]),ioF:=Mt [(246,tM.aJ)] })with nt:=98,own:=[17,18,23,25,34,40,53,91,97],keep:=fun k=>(tlook [(16,[8,9,10,11,12,13]),(11,[0,8,9,10])] k).getD [],cut:=tlook [] }
def aF:=bd f244
theorem aU:Nk E aF:=nk
def bBK a b c (d:Nat) (f:List Int):=nN E f244 aF 11 [mK a,bK b,mK c,(A.v (V.one (L.buf 3 d)),some { e:=(112:Nat),cont:=oI.ints u32 f })]
def bGY a b (c:Nat) (d:List Int) f (g:Nat) (h:List Int) x7:=nN E f244 aF 16 [bK a,mK b,(A.v (V.one (L.buf 2 c)),some { e:=(112:Nat),cont:=oI.ints u32 d }),bK f,(A.v (V.one (L.buf 4 g)),some { e:=(112:Nat),cont:=oI.ints u32 h }),bK x7]
theorem start a b:aG E f244 aF [D.s (ints u32 a),D.s (ints u32 b)]=letI A:=(b.length:Int);letI F:=A-(1:Int);letI B:=cDH (i64.wrap F).toNat (cDG A.toNat b);aD (A==(0:Int)) (aO ((0:Int)<=(0:Int)/\(0:Int)<(18446744073709551616:Int)) (aO ((0:Int)<=(0:Int)/\(0:Int)<(18446744073709551616:Int)) (some [D.own 112 u32 (dg 0),D.own 112 u32 (dg 0)]))) (aO (cI a/\cI b/\a.length<=4398046511104/\b.length<=4398046511104) (aD (decide (iS (val a) (val b)<0)) (aO ((0:Int)<=(0:Int)/\(0:Int)<(18446744073709551616:Int)) (aO (bN a/\a.length<=4398046511104) (some [D.own 112 u32 (dg 0),D.own 112 u32 (dg (val a))]))) (aD (A==(1:Int)) (if(0:Int)<=(0:Int)/\0<A then aO (bN a/\a.length<=1099511627776/\0<b.getD 0 0/\b.getD 0 0<(4294967296:Int)) (aC (dg (val a/(b.getD 0 0).toNat)) fun c=>aC (↑(val a%(b.getD 0 0).toNat):Int) fun d=>aO (0<=u64.wrap d/\u64.wrap d<18446744073709551616) (some [D.own 112 u32 c,D.own 112 u32 (dg (u64.wrap d).toNat)]))else none) (if 0<=i64.wrap F/\i64.wrap F<=A/\A<=A then aO (cI B/\B.length<=4398046511104) (aC (↑(bl (val B)):Int) fun e=>letI C:=i64.wrap ((32:Int)-e);aO (cI b/\b.length<=1099511627776/\i64.wrap ((32:Int)-e)<=1099511627776) (aC (dg (val b*(2:Nat)^C.toNat)) fun f=>aO (cI a/\a.length<=1099511627776/\i64.wrap ((32:Int)-e)<=1099511627776) (aC (dg (val a*(2:Nat)^C.toNat)) fun g=>DivMod.bBK a C f g.length g)))else none)))):=eJ aU
theorem aNY a b c d e:bBK a b c d e=letI A:=(c.length:Int);letI B:=i64.wrap ((d:Int)-A);aD (decide ((d:Int)<=(a.length:Int))) (if(0:Nat)<(1:Nat)/\(↑(e.length+1):Int)<=(8796093022208:Int)then DivMod.bBK a b c (e.length+1) (e ++ [(0:Int)])else none) (if 0<=i64.wrap ((d:Int)-A)/\i64.wrap ((d:Int)-A)<=i64.wrap ((d:Int)-A)/\i64.wrap ((d:Int)-A)<=8796093022208 then DivMod.bGY b c d e A B.toNat (bZK B.toNat (0:Int)) (i64.wrap (i64.wrap ((d:Int)-A)-1))else none):=lJ aU
theorem aNW a b c d e f g h:bGY a b c d e f g h=letI C:=val d/(4294967296:Nat)^h.toNat/val b;letI B:=i64.wrap (h+e)+1;letI A:=cDG (e.toNat-0) (cDH 0 d);aD (decide (0<=h)) (if 0<=h/\h<=i64.wrap B/\i64.wrap B<=(c:Int)then aO (bN d/\(i64.wrap B).toNat-h.toNat=b.length+1/\h.toNat+((i64.wrap B).toNat-h.toNat)<=d.length/\bN b/\0<b.length/\d.length<=549755813888/\2147483648<=b.getD (b.length-1) 0/\val d/(4294967296:Nat)^h.toNat<4294967296*val b) (aC (C:Int) fun i=>aC (M8.oL d.length (val d-(4294967296:Nat)^h.toNat*(val b*C))) fun j=>if 0<=h/\h<(f:Int)then DivMod.bGY a b c j e f (g.set h.toNat i) (i64.wrap (h-1))else none)else none) (aO (bN g/\g.length<=4398046511104) (if(0:Int)<=(0:Int)/\0<=e/\e<=(c:Int)then aO (bN A/\A.length<=4398046511104) (aC (dg (val A)) fun k=>aO (bN k/\k.length<=1099511627776/\a<9223372036854775808) (aC (dg (val k/(2:Nat)^a.toNat)) fun l=>some [D.own 112 u32 (dg (val g)),D.own 112 u32 l]))else none)):=lJ aU
def sp(a b:List Int):Prop×List D:=(cI a/\cI b/\a.length<=274877906944/\1<=b.length/\b.length<=274877906944,[.own kW .u32 (dg (val a/val b)),.own kW .u32 (dg (val a%val b))])
theorem bMF{v:List Int}{L U0 s:Nat}(hL:L<=549755813888)(hv:bN v)(hn:0<v.length)(aWR:2147483648<=v.getD (v.length-1) 0)(hvL:v.length<=L)(hs:s<=32):∀(t:Nat) (u qs:List Int),t<=L-v.length->u.length=L->bN u->qs.length=L-v.length->bN qs->val u/4294967296^t<val v->U0=val u+val v*(4294967296^t*val (qs.drop t)) ->
  bGY s v L u v.length (L-v.length) qs ((t:Int)-1)=some [.own kW .u32 (dg (U0/val v)),.own kW .u32 (dg (U0%val v/2^s))]:=by
 have aOY:=cR hv;intro t
 induction t with
 |zero =>
  intro u qs _ hu hd hq aXR jM hU;rw[Nat.pow_zero,cJA]at jM;rw[Nat.pow_zero,Nat.one_mul,cDT]at hU;have e1:U0/val v=val qs:=by rw[hU,cDI _ _ (by omega),cCW jM,bXL]
  have e2:U0%val v=val u:=by rw[hU,cJP,cIZ jM]
  have e3:val (u.take v.length)=val u:=by rw[M8.mJ hd,cIZ (by omega)]
  have l3:(u.take v.length).length<=549755813888:=by rw[bZC];omega
  have l4:=jX (Nat.le_of_lt jM);have l5:=lW hv;rw[aNW,aN,gP ⟨aXR,by omega⟩,aT];simp only[cBF,Nat.sub_zero,cDT,aB];rw[gP ⟨hd.take _,by omega⟩,e3,gP ⟨bZ _,by omega,by omega⟩,bD,e1,e2]
 |succ j ih =>
  intro u qs hj hu hd hq aXR jM hU;have w1:i64.wrap (i64.wrap (((j+1:Nat):Int)-1+(v.length:Int))+1)=((j+(v.length+1):Nat):Int):=by
   rw[wrap_i64 (n:=((j+1:Nat):Int)-1+(v.length:Int)),wrap_i64];omega
  have w2:i64.wrap (((j+1:Nat):Int)-1-1)=(j:Int)-1:=by rw[wrap_i64];omega
  have ej:(((j+1:Nat):Int)-1).toNat=j:=by omega
  have en:j+(v.length+1)-j=v.length+1:=by omega
  obtain⟨R,hR⟩:∃R,R=val u/4294967296^j:=⟨_,rfl⟩;have hV:0<val v:=cEC (cCR _) jM;have aYD:R<4294967296*val v:=by
   rw[cCK,<-cCT,<-hR]at jM;rw[cCI];exact(Nat.div_lt_iff_lt_mul (by omega)).1 jM
  obtain⟨q,aQZ⟩:∃q,q=R/val v:=⟨_,rfl⟩;have aUG:val v*q<=R:=by rw[aQZ];exact cIN _ _
  have bSU:q<4294967296:=by
   rw[aQZ];apply cDC;rw[cCI];exact aYD
  have aOS:=cR hd;rw[hu]at aOS;rw[aNW,aR];simp only[w1,w2,ej,en,cBF,aB];rw[aT,gP ⟨hd,by trivial,by omega,hv,hn,by omega,aWR,by rw[<-hR];exact aYD⟩,aT,<-hR,<-aQZ,hu];obtain⟨m1,m2⟩:=tM.minus hR aUG;refine ih _ _ (by omega) (M8.iA (by omega)) M8.lY (by simp[hq]) (kI aXR ⟨by omega,by omega⟩) ?_ ?_
  ·rw[M8.kZ,m1];have h1:=cJC R (val v);have h2:=bZR R hV;rw[<-aQZ]at h1;omega
  ·rw[M8.kZ,nP (by omega),cBF,hU,cCK];have e1:val v*(4294967296^j*(q+4294967296*val (qs.drop (j+1))))=4294967296^j*(val v*q)+val v*(4294967296^j*4294967296*val (qs.drop (j+1))):=by
    rw[cCO,cCO,cEJ,cCN (4294967296^j)]
   rw[e1];omega
theorem bFG{a v:List Int}{s:Int}{r:Option (List D)}(aOU:a.length<=274877906944)(K:∀u:List Int,bN u->u.length=a.length+1->bBK a s v (a.length+1) u=r\/True):∀(d:Nat) (u:List Int),bN u->u.length+d=a.length+1->bBK a s v u.length u=bBK a s v (a.length+1) (u ++ bZK d 0)
 |0,u,hu,hl=>by
  rw[show u.length=a.length+1 by omega];simp
 |d+1,u,hu,hl=>by
  rw[aNY,aR,aT];have:=bFG aOU K d (u ++ [0]) (lS.2 ⟨hu,jY.2 ⟨by omega,lB⟩⟩) (by simp;omega);rw[bZY,cLR]at this;rw[this,bYY];rfl
theorem spec:eR E f244 aF (pI .u32) (pI .u32) sp:=by
 rintro a b ⟨ha,hb,hl,h1,aLK⟩;refine(start a b).trans ?_;have g:=hb.gT.get 0;have hz:val b≠0:=fun h=>by have:=(cX hb).2 h;omega
 show _=some [D.own kW .u32 (dg (val a/val b)),D.own kW .u32 (dg (val a%val b))];rw[cO,gP ⟨ha,hb,by omega,by omega⟩]
 by_cases hc:val a<val b
 ·have:iS (val a) (val b)<0:=by unfold iS;rw[if_pos hc];omega
  rw[aR this,gP,gP ⟨ha.gT,by omega⟩,cCW hc,cIZ hc]
 have:¬iS (val a) (val b)<0:=by unfold iS;rw[if_neg hc];split <;> omega
 have hm:=bZR (val a) (show 0<val b by omega);rw[aN this]
 by_cases aFZ:b.length=1
 ·have hv:val b=(b.getD 0 0).toNat:=by
   have:=bR (a:=b) 0;rw[cA (by omega)]at this;simpa [val] using this
  rw[hv]at hm;rw[cL,aT,gP ⟨ha.gT,by omega,by omega,g.2⟩,hv,aB,aB];generalize val a%(b.getD 0 0).toNat=r at *;rw[wrap_u64 (n:=(r:Int)),gP,cBF]
 ·have w1:i64.wrap ((b.length:Int)-1)=((b.length-1:Nat):Int):=by rw[wrap_i64];omega
  have gt:=hb.gT.get (b.length-1);have aWR:b.getD (b.length-1) 0≠0:=by
   have:=getLast_take (a:=b) (n:=b.length-1) (by omega);rw[show b.length-1+1=b.length from by omega,cEH]at this;exact hb.top this
  have aUC:=bR (a:=b) (b.length-1);rw[show b.length-1+1=b.length from by omega,cEH]at aUC;have bIM:=fR hb.gT (b.length-1);obtain⟨x,hx⟩:=cCM gt.1;have Kt:x≠0:=by omega
  have bUO:bl x<=32:=dX.2 (by omega);have bKL:=oO Kt;have bFT:=wP x;have bRZ:=Rg Kt;obtain⟨s,hs⟩:∃s:Nat,s=32-bl x:=⟨_,rfl⟩;have wR:b.drop (b.length-1)=[b.getD (b.length-1) 0]:=by
   have h2:=List.drop_eq_getElem_cons (l:=b) (i:=b.length-1) (by omega);rw[show b.length-1+1=b.length by omega,List.drop_length]at h2;rw[h2,cCQ,bXY (by omega)];rfl
  have bQG:val (b.drop (b.length-1))=x:=by
   rw[wR];show(b.getD (b.length-1) 0).toNat+4294967296*0=x;omega
  have bRC:cI (b.drop (b.length-1)):=M8.Be hb _;have ws:i64.wrap (32-(bl x:Int))=(s:Int):=by rw[wrap_i64];omega
  have aDV:=cR ha.gT;have bEH:=cR hb.gT;have Ta:2^s<4294967296:=by
   have:2^s<2^32:=cEE (by omega) (by omega);omega
  have Mx:0<2^s:=cB;have bGT:val a*2^s<4294967296^(a.length+1):=by rw[cCK];exact cGK aDV Ta
  have bBB:val b*2^s<4294967296^b.length:=by
   have h2:(x+1)*2^s<=2^bl x*2^s:=cBK _ bFT;rw[<-cCH,show bl x+s=32 from by omega]at h2;have h3:val b+1<=4294967296^(b.length-1)*(x+1):=by
    rw[aUC,hx,cBF,cCO];omega
   have h4:(val b+1)*2^s<=4294967296^(b.length-1)*(x+1)*2^s:=cBK _ h3;have h5:4294967296^(b.length-1)*((x+1)*2^s)<=4294967296^(b.length-1)*2^32:=bZW _ h2;have h6:4294967296^(b.length-1)*2^32=4294967296^b.length:=by
    conv=>rhs;rw[show b.length=(b.length-1)+1 from by omega,cCK]
   rw[h6]at h5;rw[cCN]at h4;rw[bZU]at h4;omega
  have bJL:b.length<=a.length:=by
   rcases Nat.lt_or_ge a.length b.length with h |h
   ·exact absurd (nV ha.gT hb h) hc
   ·exact h
  have Ao:4294967296^(b.length-1)<=val b:=by
   rw[aUC,hx,cBF];have:4294967296^(b.length-1)*1<=4294967296^(b.length-1)*x:=bZW _ (by omega);omega
  have Qv:val a*2^s/4294967296^(a.length+1-b.length)<val b*2^s:=by
   apply cDC;have h1:4294967296^(a.length+1-b.length)*4294967296^(b.length-1)<=4294967296^(a.length+1-b.length)*val b:=bZW _ Ao;rw[<-cCH,show a.length+1-b.length+(b.length-1)=a.length from by omega]at h1;rw[<-cCN];exact cGJ (bYH aDV h1) Mx
  have hQ:val a*2^s/(val b*2^s)=val a/val b:=Nat.mul_div_mul_right _ _ Mx;have hR:val a*2^s%(val b*2^s)=val a%val b*2^s:=Nat.mul_mod_mul_right _ _ _;obtain⟨v,hv⟩:∃v,v=dg (val b*2^s):=⟨_,rfl⟩;have vv:val v=val b*2^s:=by rw[hv,bD]
  have dv:bN v:=by rw[hv];exact bZ _
  have lv:v.length=b.length:=by
   have h1:v.length<=b.length:=by rw[hv];exact cU bBB
   have h2:b.length-1<v.length:=by
    refine Nat.not_le.1 fun hn=>?_
    have h3:=cR dv;have h4:4294967296^v.length<=4294967296^(b.length-1):=cAI (by omega) hn;have h5:val b*1<=val b*2^s:=bZW _ Mx;omega
   omega
  have tv:2147483648<=v.getD (v.length-1) 0:=by
   have gv:=dv.get (v.length-1);have e:=tM.digit dv (v.length-1);have h1:4294967296^(b.length-1)*2147483648<=val v:=by
    have h2:2^(bl x-1)*2^s<=x*2^s:=cBK _ bRZ;rw[<-cCH,show bl x-1+s=31 by omega]at h2;have h3:4294967296^(b.length-1)*2^31<=4294967296^(b.length-1)*(x*2^s):=bZW _ h2;have h4:4294967296^(b.length-1)*x<=val b:=by rw[aUC,hx,cBF];omega
    have h5:4294967296^(b.length-1)*x*2^s<=val b*2^s:=cBK _ h4;rw[cCN]at h5;rw[vv];exact bYC h3 h5
   have h2:2147483648<=val v/4294967296^(b.length-1):=by
    rw[Nat.le_div_iff_mul_le (cB),cCI];exact h1
   have h3:val v/4294967296^(b.length-1)<4294967296:=by
    apply cDC;rw[<-cCK,show(b.length-1).succ=b.length by omega,vv];exact bBB
   rw[lv]at e gv ⊢;rw[cIZ h3]at e;omega
  have aUE:(dg (val a*2^s)).length<=a.length+1:=cU bGT;obtain⟨d,hd⟩:=bYQ aUE;have pad:=bFG (a:=a) (v:=v) (s:=(s:Int)) (r:=none) hl (fun _ _ _=>Or.inr trivial) d (dg (val a*2^s)) (bZ _) (by omega);have du:bN (dg (val a*2^s) ++ bZK d 0):=lS.2 ⟨bZ _,gM _⟩;have lu:(dg (val a*2^s) ++ bZK d 0).length=a.length+1:=by rw[bZY,cJD];omega
  have vu:val (dg (val a*2^s) ++ bZK d 0)=val a*2^s:=by rw[iE,gW,bD];omega
  have wn:i64.wrap (((a.length+1:Nat):Int)-(v.length:Int))=((a.length+1-v.length:Nat):Int):=by rw[wrap_i64];omega
  have bQC:i64.wrap (((a.length+1-v.length:Nat):Int)-1)=((a.length+1-v.length:Nat):Int)-1:=by rw[wrap_i64]
  have fin:=bMF (v:=v) (L:=a.length+1) (U0:=val a*2^s) (s:=s) (by omega) dv (by omega) tv (by omega) (by omega) (a.length+1-v.length) (dg (val a*2^s) ++ bZK d 0) (bZK (a.length+1-v.length) 0) (bXK _) lu du (by simp) (gM _) (by rw[vu,vv,lv];exact Qv) (by
   rw[vu,show(bZK (a.length+1-v.length) (0:Int)).drop (a.length+1-v.length)=[] by simp];show _=_+val v*(_*0);omega)
  rw[vv,hQ,hR,Nat.mul_div_cancel _ Mx]at fin;rw[cO,w1,aT];simp only[cBF,cEH,aB];rw[gP ⟨bRC,by rw[cEY];omega⟩,bQG,ws,gP ⟨hb,by omega,by omega⟩,gP ⟨ha,by omega,by omega⟩,cBF,<-hv,pad,aNY,aN,wn,aT,cBF,bQC];exact fin
def aJ:dG:=orc2 (pI .u32) (pI .u32) sp
theorem fnok:qG prog E 244 f244 aF:=Hy oA mixed (mP _ _ rfl rfl (nB tM.ok wQ) (aA vV.ok (aA aOJ.ok (aA Norm.ok (aA pA.ok (aA Ff.ok (aA aPD.ok (aA aZI.ok aE))))))) (lA)) func244 rfl rfl rfl
theorem ok:lT prog base.glob 244 aJ:=fnok.jR rfl spec
end DivMod
namespace Ik
def E:=mE [(63,yI.aJ),(244,DivMod.aJ),(80,Mk.aJ),(81,Add.aJ),(82,vV.aJ),(201,Sub.aJ)] 44 [] [(6,[3,4,5,6,7])] [6]
def aF:=bd f237
theorem aU:Nk E aF:=nk
def J6 a b c d e f:=lE E f237 aF 6 [bM 0 74 [bC a,gU b],bM 1 74 [bC c,sc (slice none 0 0)],bM 2 74 [bC d,sc (slice none 0 0)],mK e,mK f]
theorem start a b c d:aG E f237 aF [D.agg [sc (bool a),ints u32 b],D.agg [sc (bool c),ints u32 d]]=letI C:=dg (val b/val d);letI B:=dg (val b%val d);letI A:=aO (bN C/\C.length<=4398046511104) (aO (bN B/\B.length<=4398046511104) (some [D.agg [sc (bool (isNeg (zs a (val C)))),ints u32 (dg (zs a (val C)).natAbs)],D.agg [sc (bool (isNeg (zs false (val B)))),ints u32 (dg (zs false (val B)).natAbs)]]));aO (dP (c,d)) (aD (decide (cT (zv (c,d)) 0<=(0:Int))) (some [D.agg [sc (bool false),sc (slice none 0 0)],D.agg [sc (bool false),sc (slice none 0 0)]]) (aO (cI b/\cI d/\b.length<=274877906944/\1<=d.length/\d.length<=274877906944) (aD (!a) A (aD ((B.length:Int)==(0:Int)) A (Ik.J6 c d false false C B))))):=eJ aU
theorem uI a b c d e f:J6 a b c d e f=letI B:=dg (val b-val f);letI A:=dg (val e+val (dg 1));aO ((0:Int)<=(1:Int)/\(1:Int)<(18446744073709551616:Int)) (aO (bN e/\bN (dg 1)/\e.length<=1099511627776/\(dg 1).length<=1099511627776) (aO (bN A/\A.length<=4398046511104) (aO (cI b/\cI f/\b.length<=4398046511104/\f.length<=4398046511104) (aO (bN B/\B.length<=4398046511104) (some [D.agg [sc (bool (isNeg (zs true (val A)))),ints u32 (dg (zs true (val A)).natAbs)],D.agg [sc (bool (isNeg (zs false (val B)))),ints u32 (dg (zs false (val B)).natAbs)]]))))):=cJ aU
def sp(x y:Bool×List Int):Prop×List D:=(dP x/\dP y/\y.1=false/\0<y.2.length/\x.2.length<=274877906944/\y.2.length<=274877906944,[zD (zv x/zv y),zD (zv x%zv y)])
theorem aQL(v q:Nat)(hq:0<q):(-(v:Int))%(q:Int)=if v%q=0 then 0 else((q-v%q:Nat):Int):=by
 have h:=nI.Sp v q hq;have hd:=Nat.div_add_mod v q;have hm:=bZR v hq;have he:=cGY (-(v:Int)) (q:Int);rw[h]at he
 by_cases hr:v%q=0
 ·rw[if_pos hr]at *;rw[cGW,<-cDY]at he;generalize q*(v/q)=t at *;omega
 ·rw[if_neg hr]at *;rw[Int.mul_sub,cGW,<-cDY,cKO]at he;generalize q*(v/q)=t at *;generalize v%q=r at *;omega
theorem spec:eR E f237 aF nM nM sp:=by
 rintro x y ⟨hx,hy,hn,hl,lx',ly'⟩;refine(start x.1 x.2 y.1 y.2).trans ((gP hy).trans ?_);have lx:=hx.len;have hz:=cX hy.1;obtain⟨b,a⟩:=x;obtain⟨c,d⟩:=y
 try dsimp only at *
 subst hn;have bRT:zv (false,d)=(val d:Int):=rfl;have qJ:0<val d:=by
  have:val d≠0:=fun h=>by have:=hz.2 h;omega
  omega
 have hc:¬cT (zv (false,d)) 0<=0:=by
  unfold cT;rw[bG,aT];omega
 have l1:=vM (val a) (val d);have l2:=jX (Nat.mod_le (val a) (val d));have nl:(dg (val a)).length=a.length:=kX hx.1;rw[nl]at l1 l2;rw[aN hc,gP ⟨hx.1,hy.1,by omega,by omega,by omega⟩];show _=some [zD (zv (b,a)/zv (false,d)),zD (zv (b,a)%zv (false,d))];have zf:∀n:Nat,zs false n=(n:Int):=fun _=>rfl
 have zt:∀n:Nat,zs true n=-(n:Int):=fun _=>rfl
 rw[bRT];cases b with
 |false =>
  have bIB:zv (false,a)=(val a:Int):=rfl;rw[cJB,bT,gP ⟨bZ _,by omega⟩,gP ⟨bZ _,by omega⟩,bIB,<-cDA,<-cED,bD,bD];rfl
 |true =>
  have bIB:zv (true,a)=-(val a:Int):=rfl;have e1:=nI.Sp (val a) (val d) qJ;have e2:=aQL (val a) (val d) qJ;have hm:=bZR (val a) qJ;rw[bZH,bF,bIB,e1,e2]
  by_cases hr:val a%val d=0
  ·rw[hr,cG,cL (show((([]:List Int).length:Nat):Int)=0 from rfl),if_pos rfl,if_pos rfl,gP ⟨bZ _,by omega⟩,gP ⟨lB,by simp⟩,bD];rfl
  ·have bNQ:(dg (val a%val d)).length≠0:=fun h=>hr (fT.1 h)
   have l3:=vO (val a/val d) 1;have l4:=zB (val d) (val a%val d);rw[show(dg (val d)).length=d.length from kX hy.1]at l4;rw[Nn,cLR]at l3;rw[cO,if_neg hr,if_neg hr,uI,gP ⟨by omega,by omega⟩,gP ⟨bZ _,bZ _,by omega,by rw[Nn];simp⟩,bD,bD,gP ⟨bZ _,by omega⟩,gP ⟨hy.1,bA _,by omega,by omega⟩,bD,bD,gP ⟨bZ _,by omega⟩,bD,zt,zf];rw[show -(((val a/val d+1:Nat)):Int)=-((val a/val d:Nat):Int)-1 by omega];rfl
def aJ:dG:=orc2 nM nM sp
theorem ok:OK 237 aJ:=(dZ E aF (aA yI.ok (aA DivMod.ok (aA Mk.ok (aA Add.ok (aA vV.ok (aA Sub.ok aE)))))) func237).jR rfl spec
end Ik
namespace fN
def E:=mE [(166,Is.aJ),(237,Ik.aJ)] 20 [] [(3,[2,3,4])] [3]
def aF:=bd f219
theorem aU:Nk E aF:=nk
def J3 a b c d e:=lE E f219 aF 3 [bM 0 74 [bC a,gU b],bM 1 74 [bC c,gU d],bM 2 74 [bC e,sc (slice none 0 0)]]
theorem start a b c d:aG E f219 aF [D.agg [sc (bool a),ints u32 b],D.agg [sc (bool c),ints u32 d]]=aD c (aO (dP (a,b)) (aO (dP (c,d)) (fN.J3 (isNeg (-zv (a,b))) (dg (-zv (a,b)).natAbs) (isNeg (-zv (c,d))) (dg (-zv (c,d)).natAbs) false))) (fN.J3 a b c d false):=eJ aU
theorem fB a b c d e:J3 a b c d e=letI A:=zv (a,b)/zv (c,d);aO (dP (a,b)/\dP (c,d)/\c=false/\0<d.length/\b.length<=274877906944/\d.length<=274877906944) (some [D.agg [sc (bool (isNeg A)),ints u32 (dg A.natAbs)]]):=cJ aU
def Va(x y:Int):Int:=if y<0 then(-x)/(-y)else x/y
def sp(x y:Bool×List Int):Prop×List D:=(dP x/\dP y/\0<y.2.length/\x.2.length<=274877906944/\y.2.length<=274877906944,[zD (Va (zv x) (zv y))])
theorem aBN{x:Bool×List Int}(h:dP x):dP (isNeg (-zv x),dg (-zv x).natAbs):=pV (by rw[cFM,kL,kX h.1];exact h.len)
theorem spec:eR E f219 aF nM nM sp:=by
 rintro x y ⟨hx,hy,hl,lx,ly⟩;refine(start x.1 x.2 y.1 y.2).trans ?_;have nx:=aBN hx;have ny:=aBN hy;have bRL:(dg (-zv x).natAbs).length<=274877906944:=by rw[cFM,kL,kX hx.1];exact lx
 have hd:dg (-zv y).natAbs=y.2:=by rw[cFM];exact hy.cells.2
 have hz:=cX hy.1;have Dq:zv y≠0:=fun h=>by
  have:=kL y;have:val y.2=0:=by omega
  omega
 obtain⟨a,p⟩:=x;obtain⟨b,q⟩:=y
 try dsimp only at *
 unfold sp Va
 try dsimp only
 cases b with
 |false =>
  have hp:zv (false,q)=(val q:Int):=rfl;rw[bF,fB,gP ⟨hx,hy,rfl,hl,lx,ly⟩,bG];rfl
 |true =>
  have hp:zv (true,q)=-(val q:Int):=rfl;have aXE:isNeg (-zv (true,q))=false:=fH.2 (by omega);rw[aXE,hd]at ny ⊢;rw[bT,gP hx,gP hy,fB,gP ⟨nx,ny,rfl,hl,bRL,ly⟩,iX,aT];have:zv (false,q)=-zv (true,q):=by rw[hp];show(val q:Int)=_;omega
  rw[this];rfl
def aJ:dG:=orc2 nM nM sp
theorem ok:OK 219 aJ:=(dZ E aF (aA Is.ok (aA Ik.ok aE)) func219).jR rfl spec
end fN
namespace aZE
def E:=mE [(122,Bt.aJ),(214,aNH.aJ),(219,fN.aJ)] 12 [] [] []
def aF:=bd f184
theorem aU:Nk E aF:=nk
theorem start a b c d:aG E f184 aF [D.agg [sc (bool a),ints u32 b],D.agg [sc (bool c),ints u32 d]]=letI C:=fN.Va (zv (a,b)) (zv (c,d));letI A:=(isNeg C,dg C.natAbs);letI B:=(isNeg (zv (c,d)*zv A),dg (zv (c,d)*zv A).natAbs);aO (dP (a,b)/\dP (c,d)/\0<d.length/\b.length<=274877906944/\d.length<=274877906944) (aO (dP (c,d)/\dP A) (aO (dP (a,b)/\dP B) (some [D.agg [sc (bool (isNeg (zv (a,b)-zv B))),ints u32 (dg (zv (a,b)-zv B).natAbs)]]))):=eJ aU
def sp(x y:Bool×List Int):Prop×List D:=(dP x/\x.2.length<=268435456/\dP y/\y.1=false/\y.2.length=1,[zD (zv x%zv y)])
theorem spec:eR E f184 aF nM nM sp:=by
 rintro x y ⟨hx,lx,hy,hn,hl⟩;refine(start x.1 x.2 y.1 y.2).trans ((gP ⟨hx,hy,by omega,by omega,by omega⟩).trans ?_);have hz:=cX hy.1;have bx:=Ig hx.1.gT lx;have bWM:=Ig (n:=1) hy.1.gT (by omega);have ax:=kL x;have ay:=kL y;obtain⟨a,p⟩:=x;obtain⟨b,q⟩:=y
 try dsimp only at *
 subst hn;have hp:zv (false,q)=(val q:Int):=rfl;have qJ:0<zv (false,q):=by
  have:val q≠0:=fun h=>by have:=hz.2 h;omega
  omega
 have hf:fN.Va (zv (a,p)) (zv (false,q))=zv (a,p)/zv (false,q):=by unfold fN.Va;rw[bG]
 have hq:bl (zv (a,p)/zv (false,q)).natAbs<=8589934592:=bYC (fW (by rw[hp];exact qI (by omega))) (by rw[ax];omega);have hm:bl (zv (false,q)*(zv (a,p)/zv (false,q))).natAbs<=8589934700:=by
  rw[cDE];refine bYC (nC _ _) ?_;rw[ay];omega
 rw[hf,gP ⟨hy,dU hq (by omega)⟩,iX,gP ⟨hx,dU hm (by omega)⟩,iX];have:zv (a,p)-zv (false,q)*(zv (a,p)/zv (false,q))=zv (a,p)%zv (false,q):=by
  have:=cGY (zv (a,p)) (zv (false,q));omega
 rw[this];rfl
def aJ:dG:=orc2 nM nM sp
theorem ok:OK 184 aJ:=(dZ E aF (aA Bt.ok (aA aNH.ok (aA fN.ok aE))) func184).jR rfl spec
end aZE
namespace oG
def E:=mE [(166,Is.aJ),(219,fN.aJ)] 10 [] [] []
def aF:=bd f221
theorem aU:Nk E aF:=nk
theorem start a b c d:aG E f221 aF [D.agg [sc (bool a),ints u32 b],D.agg [sc (bool c),ints u32 d]]=aO (dP (a,b)) (aC (isNeg (-zv (a,b))) fun e=>aC (dg (-zv (a,b)).natAbs) fun f=>letI A:=fN.Va (zv (e,f)) (zv (c,d));aO (dP (e,f)/\dP (c,d)/\0<d.length/\f.length<=274877906944/\d.length<=274877906944) (aC (isNeg A) fun g=>aC (dg A.natAbs) fun h=>aO (dP (g,h)) (aC (isNeg (-zv (g,h))) fun i=>aC (dg (-zv (g,h)).natAbs) fun j=>some [D.agg [sc (bool i),ints u32 j]]))):=eJ aU
def Dr(a b:Int):Int:=-fN.Va (-a) b
theorem aEB{a b:Int}(hb:b≠0):(fN.Va a b).natAbs<=a.natAbs+1:=by
 have key:∀u v:Int,0<v->(u/v).natAbs<=u.natAbs+1:=by
  intro u v hv;obtain⟨n,rfl⟩:=cCM (cAO hv);have:=qI (z:=u) (q:=n) (by omega);omega
 unfold fN.Va;split
 ·have:=key (-a) (-b) (by omega);omega
 ·exact key a b (by omega)
def sp(x y:Bool×List Int):Prop×List D:=(dP x/\dP y/\0<y.2.length/\x.2.length<=274877906942/\y.2.length<=274877906944,[zD (Dr (zv x) (zv y))])
theorem spec:eR E f221 aF nM nM sp:=by
 rintro x y ⟨hx,hy,h0,lx,ly⟩;refine(start x.1 x.2 y.1 y.2).trans ((gP hx).trans ?_);have aFT:zv (x.1,x.2)=zv x:=rfl;have bID:zv (y.1,y.2)=zv y:=rfl;have y0:zv y≠0:=fun hz=>by have:=kL y;have:=(cX hy.1).2 (by omega);omega
 have ax:(dg (-zv x).natAbs).length=x.2.length:=by rw[cFM,kL,kX hx.1]
 have af:(dg (fN.Va (-zv x) (zv y)).natAbs).length<=x.2.length+2:=by
  refine bYC (jX (aEB y0)) ?_;have:=vO (-zv x).natAbs 1;rw[Nn,cLR]at this;omega
 simp only[aB,aFT,bID,iX];rw[gP ⟨pV (by omega),hy,h0,by omega,ly⟩,gP (pV (by omega))];rfl
def aJ:dG:=orc2 nM nM sp
theorem ok:OK 221 aJ:=(dZ E aF (aA Is.ok (aA fN.ok aE)) func221).jR rfl spec
end oG
namespace Oh
def E:=mE [(122,Bt.aJ),(63,yI.aJ)] 9 [8] [] []
def aF:=bd f77
theorem aU:Nk E aF:=nk
theorem start a b c d:aG E f77 aF [D.agg [sc (bool a),ints u32 b],D.agg [sc (bool c),ints u32 d]]=letI B:=zv (a,b)-zv (c,d);letI A:=(isNeg B,dg B.natAbs);aO (dP (a,b)/\dP (c,d)) (aO (dP A) (some [D.s (sc (int i64 (cT (zv A) 0)))])):=eJ aU
def sp(x y:Bool×List Int):Prop×List D:=(dP x/\dP y/\x.2.length<549755813888/\y.2.length<549755813888,[.s (.sc (.int .i64 (cT (zv x) (zv y))))])
theorem aQT{x y:Bool×List Int}(hx:dP x)(hy:dP y){n:Nat}(h1:x.2.length<n)(h2:y.2.length<n):(dg (zv x-zv y).natAbs).length<=n:=by
 have h3:(zv x-zv y).natAbs<=val x.2+val y.2:=by
  have:=kL x;have:=kL y;omega
 have h4:=jX h3;have h5:=vO (val x.2) (val y.2);rw[kX hx.1,kX hy.1]at h5;omega
theorem spec:eR E f77 aF nM nM sp:=by
 intro x y h;refine(start x.1 x.2 y.1 y.2).trans ?_;obtain⟨hx,hy,h1,h2⟩:=h;rw[gP ⟨hx,hy⟩,gP (pV (aQT hx hy h1 h2)),iX,aMT];rfl
def aJ:dG:=orc2 nM nM sp
theorem ok:OK 77 aJ:=(dZ E aF (aA Bt.ok (aA yI.ok aE)) func77).jR rfl spec
end Oh
namespace bHB
def E:=mE [] 24 [] [(3,[0,1])] [3]
def aF:=bd f245
theorem aU:Nk E aF:=nk
def J3 a b:=lE E f245 aF 3 [mK a,bK b]
theorem start a b:aG E f245 aF [D.s (ints u32 a),D.s (sc (int i64 b))]=letI A:=some [D.s (sc (int i64 0))];aD (decide (b<0)) A (aD (decide ((a.length:Int)<=i64.wrap (b.tdiv 32))) A (bHB.J3 a b)):=eJ aU
theorem fB a b:J3 a b=letI A:=b.tdiv 32;if 0<=i64.wrap A/\i64.wrap A<(a.length:Int)then if b.tmod 32<(0:Int)then none else some [D.s (sc (int i64 (i64.wrap (fU BinOp.and u32 (a.getD (i64.wrap A).toNat 0/(↑((2:Nat)^min (b.tmod 32).toNat 32):Int)) 1))))]else none:=cJ aU
theorem aGW{x:Int}(h:0<=x)(h':x<4294967296):fU .and .u32 x 1=x%2:=by
 obtain⟨n,rfl⟩:=cCM h;rw[tG];unfold bitsI0;simp only;have e:(BitVec.ofInt u32.bits (n:Int) &&& BitVec.ofInt u32.bits 1).toNat=n%2:=by
  show(BitVec.ofInt 32 (n:Int) &&& BitVec.ofInt 32 1).toNat=_;rw[BitVec.toNat_and];have e1:(BitVec.ofInt 32 (n:Int)).toNat=n:=by simp;omega
  have e2:(BitVec.ofInt 32 1).toNat=1:=by decide
  rw[e1,e2,Nat.and_one_is_mod]
 rw[e,wrap_u32];omega
def sp(a:List Int)(i:Int):Prop×List D:=(bN a/\a.length<=1099511627776/\-9223372036854775808<=i/\i<9223372036854775808,[.s (.sc (.int .i64 (if i<0 then 0 else((val a/2^i.toNat%2:Nat):Int))))])
theorem spec:eR E f245 aF (pI .u32) (pN .i64) sp:=by
 rintro a i ⟨ha,hl,h1,h2⟩;refine(start a i).trans ?_;show _=some [D.s (.sc (.int .i64 (if i<0 then 0 else((val a/2^i.toNat%2:Nat):Int))))]
 by_cases hn:i<0
 ·rw[aR hn,if_pos hn]
 ·have t1:i.tdiv 32=i/32:=cEF (by omega);have t2:i.tmod 32=i%32:=cEG (by omega);have e1:(i/32).toNat=i.toNat/32:=by omega
  have e2:(i%32).toNat=i.toNat%32:=by omega
  rw[aN hn,if_neg hn,t1,wrap_i64 (n:=i/32),xS i.toNat,<-cCT]
  by_cases hz:(a.length:Int)<=i/32
  ·have hv:val a/4294967296^(i.toNat/32)=0:=by
    apply cCW;exact bYH (cR ha) (fM)
   rw[aR hz,hv,Nat.zero_div];rfl
  ·have g:=ha.get (i.toNat/32);rw[aN hz,fB,t1,t2,wrap_i64 (n:=i/32),aT,bG,e1,e2,<-iL ha,gB];have em:min (i.toNat%32) 32=i.toNat%32:=by omega
   have jM:i.toNat%32<32:=bZR _ (by omega);rw[em];generalize i.toNat%32=k at *;generalize a.getD (i.toNat/32) 0=x at *;generalize val (a.drop (i.toNat/32+1))=r at *;have hp:0<2^k:=cB;have e3:(x.toNat+4294967296*r)/2^k%2=x.toNat/2^k%2:=by
    have:4294967296*r=2^k*(2*(2^(31-k)*r)):=by
     rw[show(4294967296:Nat)=2^32 from rfl,show 32=k+(1+(31-k))from by omega,cCH,cCH,cCN,cCN]
    rw[this,cDI _ _ hp];omega
   rw[e3];have ex:x/((2^k:Nat):Int)=((x.toNat/2^k:Nat):Int):=by
    obtain⟨n,rfl⟩:=cCM g.1;rw[<-cDA];rfl
   have hle:x.toNat/2^k<=x.toNat:=cDK _ _;rw[ex];clear ex e3;generalize x.toNat/2^k=q at *;rw[aGW (by omega) (by omega),wrap_i64];rfl
def aJ:dG:=orc2 (pI .u32) (pN .i64) sp
theorem ok:OK 245 aJ:=(dZ E aF aE func245).jR rfl spec
end bHB
namespace aNI
def E:=mE [(245,bHB.aJ)] 7 [] [] []
def aF:=bd f243
theorem aU:Nk E aF:=nk
theorem start a b:aG E f243 aF [D.agg [sc (bool a),ints u32 b]]=aO (bN b/\b.length<=1099511627776/\(-9223372036854775808:Int)<=(0:Int)/\(0:Int)<(9223372036854775808:Int)) (some [D.s (sc (bool ((if(0:Int)<(0:Int)then(0:Int)else(↑(val b/1%(2:Nat)):Int))==0)))]):=eJ aU
def sp(x:Bool×List Int):Prop×List D:=(dP x,[.s (.sc (.bool (decide (zv x%2=0))))])
theorem spec:iD E f243 aF nM sp:=by
 intro x h;have h:dP x:=h;refine(start x.1 x.2).trans ((gP ⟨h.1.gT,by have:=h.len;omega,by decide,by decide⟩).trans ?_);have e:((if(0:Int)<0 then 0 else((val x.2/1%2:Nat):Int))==0)=decide (zv x%2=0):=by
  have ha:=kL x;rw[if_neg (by decide),cJA]
  by_cases c:zv x%2=0
  ·rw[decide_eq_true c];exact beq_iff_eq.2 (by omega)
  ·rw[decide_eq_false c];exact beq_eq_false_iff_ne.2 (by omega)
 exact congrArg (fun b:Bool=>some [D.s (.sc (.bool b))]) e
def aJ:dG:=orc1 nM sp
theorem ok:OK 243 aJ:=(dZ E aF (aA bHB.ok aE) func243).oS rfl spec
end aNI
namespace pT
def E:=mE [(237,Ik.aJ),(77,Oh.aJ),(76,Bu.aJ),(243,aNI.aJ),(165,Ua.aJ),(42,aAV.aJ)] 33 [] [] []
def aF:=bd f233
theorem aU:Nk E aF:=nk
theorem start a b c d:aG E f233 aF [D.agg [sc (bool a),ints u32 b],D.agg [sc (bool c),ints u32 d]]=letI G:=zv (a,b)%zv (c,d);letI F:=zv (a,b)/zv (c,d);aO (dP (a,b)/\dP (c,d)/\c=false/\0<d.length/\b.length<=274877906944/\d.length<=274877906944) (aC (isNeg F) fun e=>aC (dg F.natAbs) fun f=>letI C:=dP (e,f)/\dP (isNeg 1,dg 1);letI B:=some [D.agg [sc (bool e),ints u32 f]];letI A:=zv (e,f)+zv (isNeg 1,dg 1);aC (isNeg G) fun g=>aC (dg G.natAbs) fun h=>aO (dP (g,h)/\(1:Int)<=(1099511627776:Int)) (aC (isNeg (zv (g,h)*2)) fun i=>aC (dg (zv (g,h)*2).natAbs) fun j=>aO (dP (i,j)/\dP (c,d)/\j.length<549755813888/\d.length<549755813888) (aC (cT (zv (i,j)) (zv (c,d))) fun k=>aD (decide (0<k)) (aO ((-9223372036854775808:Int)<=(1:Int)/\(1:Int)<(9223372036854775808:Int)) (aO C (aC (isNeg A) fun l=>aC (dg A.natAbs) fun m=>some [D.agg [sc (bool l),ints u32 m]]))) (aD (k==0) (aO (dP (e,f)) (aC (decide (zv (e,f)%2=(0:Int))) fun n=>aD (!n) (aO ((-9223372036854775808:Int)<=(1:Int)/\(1:Int)<(9223372036854775808:Int)) (aO C (aC (isNeg A) fun o=>aC (dg A.natAbs) fun p=>some [D.agg [sc (bool o),ints u32 p]]))) B)) B)))):=eJ aU
def Pm(a b:Int):Int:=a/b+(if b<a%b*2\/(a%b*2=b/\a/b%2≠0)then 1 else 0)
def sp(x y:Bool×List Int):Prop×List D:=(dP x/\dP y/\y.1=false/\0<y.2.length/\x.2.length<=274877906942/\y.2.length<=274877906942,[zD (Pm (zv x) (zv y))])
theorem aRW{a b:Int}(hb:0<b):(dg (a/b).natAbs).length<=(dg a.natAbs).length:=by
 obtain⟨n,rfl⟩:=cCM (cAO hb);exact jX (qI (by omega))
theorem spec:eR E f233 aF nM nM sp:=by
 rintro x y ⟨hx,hy,hs,h0,lx,ly⟩;refine(start x.1 x.2 y.1 y.2).trans ((gP ⟨hx,hy,hs,h0,by omega,by omega⟩).trans ?_);have aFT:zv (x.1,x.2)=zv x:=rfl;have bID:zv (y.1,y.2)=zv y:=rfl;have yp:0<zv y:=by
  have h1:zv y=(val y.2:Int):=Yr hs;have:val y.2≠0:=fun hz=>by have:=(cX hy.1).2 hz;omega
  omega
 have bRI:(dg (zv y).natAbs).length=y.2.length:=by rw[kL,kX hy.1]
 have lxx:(dg (zv x).natAbs).length=x.2.length:=by rw[kL,kX hx.1]
 have r0:=cGZ (zv x) (show zv y≠0 by omega);have r1:=cHA (zv x) yp;have lr:(dg (zv x%zv y).natAbs).length<=y.2.length:=by rw[<-bRI];exact jX (by omega)
 have l2:(dg (zv x%zv y*2).natAbs).length<=y.2.length+1:=by
  rw[cDE];have:=zE (zv x%zv y).natAbs 1;rw[Nat.pow_one]at this;exact bYC this (by omega)
 have lq:=aRW (a:=zv x) yp;have two:(2:Int)^(1:Int).toNat=2:=rfl;have k1:dP (isNeg 1,dg 1):=pV (z:=1) (by show(dg 1).length<=_;rw[Nn];simp);have v1:zv (isNeg 1,dg 1)=1:=iX 1;have kq:dP (isNeg (zv x/zv y),dg (zv x/zv y).natAbs):=pV (by omega);have cz:∀u v:Int,cT u v=if u<v then -1 else if v<u then 1 else 0:=fun _ _=>rfl
 simp only[aB,aFT,bID,iX,v1];rw[gP ⟨pV (by omega),by decide⟩,gP ⟨pV (by omega),hy,by omega,by omega⟩];unfold sp Pm;dsimp only;generalize zv x/zv y=q at *;generalize zv x%zv y=r at *;rw[cz]
 by_cases c1:zv y<r*2
 ·rw[if_neg (show ¬r*2<zv y by omega),if_pos c1,aR (by decide),gP ⟨by decide,by decide⟩,gP ⟨kq,k1⟩,if_pos (Or.inl c1)];rfl
 ·by_cases c2:r*2<zv y
  ·rw[if_pos c2,aN (by decide),cO (by decide),bG,cJN];rfl
  ·rw[if_neg c2,if_neg c1,aN (by decide),cL rfl,gP kq]
   by_cases c3:q%2=0
   ·rw[decide_eq_true c3,bZH,bF,bG,cJN];rfl
   ·rw[decide_eq_false c3,cJB,bT,gP ⟨by decide,by decide⟩,gP ⟨kq,k1⟩,if_pos (Or.inr ⟨by omega,c3⟩)];rfl
def aJ:dG:=orc2 nM nM sp
theorem ok:OK 233 aJ:=(dZ E aF (aA Ik.ok (aA Oh.ok (aA Bu.ok (aA aNI.ok (aA Ua.ok (aA aAV.ok aE)))))) func233).jR rfl spec
end pT
end W
namespace M
open Go AI W
def t7(m e:Int):Int:=(if(bl m.natAbs:Int)+e>0 then(bl m.natAbs:Int)+e else 0)+4
def x7(m e q:Int):Int:=mY.Zc m (e+(q+t7 m e))
def aJE(m e q:Int):Bool:=decide (t7 m e=4)&&decide (((x7 m e q).natAbs:Int)*4<=((2^(q+t7 m e).toNat*3:Nat):Int))
def k7(m e q:Int):Int:=bif aJE m e q then 0 else pT.Pm (x7 m e q*2) (R.pF (q+t7 m e).toNat:Nat)
def y7(m e q:Int):Int:=bif aJE m e q then mY.Zc m (e+q)else(x7 m e q*2-k7 m e q*(R.pF (q+t7 m e).toNat:Nat))/((2^(t7 m e+1).toNat:Nat):Int)
end M
namespace W
open Go AI M
namespace aAW
def E:=mE [(80,Mk.aJ)] 6 [] [] []
def aF:=bd f123
theorem aU:Nk E aF:=nk
theorem start a b:aG E f123 aF [D.agg [sc (bool a),ints u32 b]]=aO (bN b/\b.length<=4398046511104) (some [D.agg [sc (bool (isNeg (zs false (val b)))),ints u32 (dg (zs false (val b)).natAbs)]]):=eJ aU
def sp(x:Bool×List Int):Prop×List D:=(dP x,[zD ((zv x).natAbs:Nat)])
theorem spec:iD E f123 aF nM sp:=by
 intro x h;have h:dP x:=h;refine(start x.1 x.2).trans ((gP ⟨h.1.gT,by have:=h.len;omega⟩).trans ?_);show _=some [zD ((zv x).natAbs:Nat)];rw[kL];rfl
def aJ:dG:=orc1 nM sp
theorem ok:OK 123 aJ:=(dZ E aF (aA Mk.ok aE) func123).oS rfl spec
end aAW
namespace kJ
def E:=mE [(63,yI.aJ),(123,aAW.aJ),(77,Oh.aJ),(76,Bu.aJ),(122,Bt.aJ)] 38 [] [(3,[1,2]),(6,[1,2,5])] [3,6]
def aF:=bd f78
theorem aU:Nk E aF:=nk
def J3 a b c d e f:=lE E f78 aF 3 [bK a,bM 1 98 [bC b,gU c,bC d,gU e,cV f]]
def J6 a b c d e f g h:=lE E f78 aF 6 [bK a,bM 1 98 [bC b,gU c,bC d,gU e,cV f],bM 2 74 [bC g,gU h]]
theorem start a c d e f b:aG E f78 aF [D.agg [sc (bool a),ints u32 c,sc (bool d),ints u32 e,sc (int i64 f)],D.s (sc (int i64 b))]=letI B:=cT (zv (a,c)) 0;letI A:=some [D.s (sc (bool false))];aO (dP (a,c)) (aC B fun g=>aO (dP (d,e)) (aC (cT (zv (d,e)) 0) fun h=>aD (g !=h) A (aO (dP (a,c)) (aC B fun i=>aD (i==0) A (kJ.J3 b a c d e f))))):=eJ aU
theorem fB a b c d e f:J3 a b c d e f=letI B:=(↑(zv (d,e)).natAbs:Int);letI A:=(↑(zv (b,c)).natAbs:Int);aO (dP (b,c)) (aC (isNeg A) fun g=>aC (dg A.natAbs) fun h=>aD b (aO (dP (d,e)) (aC (isNeg B) fun i=>aC (dg B.natAbs) fun j=>kJ.J6 a b c d e f i j)) (kJ.J6 a b c d e f g h)):=cJ aU
theorem uI a b c d e f g h:J6 a b c d e f g h=letI B:=zv (d,e)-zv (b,c);aO (dP (d,e)/\dP (b,c)) (aC (isNeg B) fun i=>aC (dg B.natAbs) fun j=>letI A:=zv (i,j)*(2:Int)^a.toNat;aO (dP (i,j)/\a<=1099511627776) (aC (isNeg A) fun k=>aC (dg A.natAbs) fun l=>aO (dP (k,l)/\dP (g,h)/\l.length<549755813888/\h.length<549755813888) (aC (cT (zv (k,l)) (zv (g,h))) fun m=>some [D.s (sc (bool (decide (m<=0))))]))):=cJ aU
abbrev aZO:=Bool×List Int×Bool×List Int×Int
def nL(s:aZO):Bool×List Int:=(s.1,s.2.1)
def nH(s:aZO):Bool×List Int:=(s.2.2.1,s.2.2.2.1)
def Yi(a b p:Int):Bool:=bif cT a 0 !=cT b 0 then false else bif cT a 0==0 then false else decide ((b-a)*2^p.toNat<=bif isNeg a then((b.natAbs:Nat):Int)else((a.natAbs:Nat):Int))
def sp(s:aZO)(p:Int):Prop×List D:=(dP (nL s)/\dP (nH s)/\(nL s).2.length<=134217728/\(nH s).2.length<=134217728/\(0<=p/\p<=134217728),[.s (.sc (.bool (Yi (zv (nL s)) (zv (nH s)) p)))])
theorem aET(n:Nat):bl (2^n)=n+1:=by
 have h1:=dX (n:=2^n) (k:=n+1);have h2:=sO (n:=2^n) (k:=n);have:2^n<2^(n+1):=cEE (by omega) (by omega);have:=h1.2 this;have:=h2.2 (bXK _);omega
theorem aVK{a b:Int}{k:Nat}(ha:bl a.natAbs<=k)(hb:bl b.natAbs<=k):bl (b-a).natAbs<=k+1:=by
 refine bYC (fW (show(b-a).natAbs<=b.natAbs+a.natAbs by omega)) (bYC (qR _ _) ?_);omega
theorem spec:eR E f78 aF (pG (.pair sB (.pair (sI .u32) (.pair sB (.pair (sI .u32) (sN .i64)))))) (pN .i64) sp:=by
 rintro s p ⟨h1,h2,l1,l2,p0,p1⟩;refine(start s.1 s.2.1 s.2.2.1 s.2.2.2.1 s.2.2.2.2 p).trans ?_;have e1:(s.1,s.2.1)=nL s:=rfl;have e2:(s.2.2.1,s.2.2.2.1)=nH s:=rfl;have b1:=Ig h1.1.gT l1;have b2:=Ig h2.1.gT l2;rw[<-kL]at b1 b2;have bs:=aVK (a:=zv (nL s)) (b:=zv (nH s)) (k:=4294967296) (by omega) (by omega);obtain⟨n,rfl⟩:=cCM p0;have bm:bl ((zv (nH s)-zv (nL s))*2^n).natAbs<=4429185026:=by
  rw[cDE,cLP];refine bYC (nC _ _) ?_;have:=aET n;show _+bl (2^n)<=_;omega
 have km:dP (isNeg ((zv (nH s)-zv (nL s))*2^n),dg ((zv (nH s)-zv (nL s))*2^n).natAbs):=dU bm (by omega);have lm:=fD bm;have kA:∀{z:Int} {k:Nat},bl z.natAbs<=k->k<=17179869184->dP (isNeg (z.natAbs:Int),dg z.natAbs):=by
  intro z k h1 h2;have:=dU (z:=(z.natAbs:Int)) (k:=k) (by rw[cDF];exact h1) h2;rwa [cDF]at this
 have vA:∀n:Nat,zv (isNeg (n:Int),dg n)=(n:Int):=fun n=>by
  have:=iX (n:Int);rwa [cDF]at this
 have fin:∀(z:Int),bl z.natAbs<=4294967296->J6 (n:Int) s.1 s.2.1 s.2.2.1 s.2.2.2.1 s.2.2.2.2 (isNeg (z.natAbs:Int)) (dg z.natAbs)=some [.s (.sc (.bool (decide ((zv (nH s)-zv (nL s))*2^n<=(z.natAbs:Int)))))]:=by
  intro z hz;have lz:=fD hz;rw[uI];simp only[e1,e2,aB,iX,vA,cBF];rw[gP ⟨h2,h1⟩,gP ⟨dU bs (by omega),by omega⟩,gP ⟨km,kA hz (by omega),by omega,by omega⟩];congr 5
  by_cases c:(zv (nH s)-zv (nL s))*2^n<=(z.natAbs:Int)
  ·rw[decide_eq_true c];exact decide_eq_true (by unfold cT;split <;> (try split) <;> omega)
  ·rw[decide_eq_false c];exact decide_eq_false (by unfold cT;split <;> (try split) <;> omega)
 unfold sp Yi;dsimp only;rw[cBF];simp only[e1,e2,aB];rw[gP h1,gP h2];have neg:isNeg (zv (nL s))=s.1:=h1.cells.1;cases hc:(cT (zv (nL s)) 0 !=cT (zv (nH s)) 0)with
 |true=>rw[bT];rfl
 |false =>
  rw[bF,gP h1,cond_false];cases hz:(cT (zv (nL s)) 0==0)with
  |true=>rw[bT];rfl
  |false =>
   rw[bF,fB,cond_false,neg];simp only[e1,e2,aB];rw[gP h1];cases hn:s.1 with
   |true =>
    have f:=fin (zv (nH s)) (by omega);rw[hn]at f;rw[bT,gP h2,cond_true];exact f
   |false =>
    have f:=fin (zv (nL s)) (by omega);rw[hn]at f;rw[bF,cond_false];exact f
def aJ:dG:=orc2 (pG (.pair sB (.pair (sI .u32) (.pair sB (.pair (sI .u32) (sN .i64)))))) (pN .i64) sp
theorem ok:OK 78 aJ:=(dZ E aF (aA yI.ok (aA aAW.ok (aA Oh.ok (aA Bu.ok (aA Bt.ok aE))))) func78).jR rfl spec
end kJ
namespace tA
def E:=mE [(122,Bt.aJ),(42,aAV.aJ),(165,Ua.aJ)] 17 [] [] []
def aF:=bd f186
theorem aU:Nk E aF:=nk
theorem start a d b c:aG E f186 aF [D.agg [sc (bool a),ints u32 d],D.s (sc (int i64 b)),D.s (sc (int i64 c))]=letI A:=(isNeg b,dg b.natAbs);letI B:=dP (a,d)/\dP A;aO ((-9223372036854775808:Int)<=b/\b<9223372036854775808) (aO B (aC (isNeg (zv (a,d)-zv A)) fun e=>aC (dg (zv (a,d)-zv A).natAbs) fun f=>aO ((-9223372036854775808:Int)<=b/\b<9223372036854775808) (aO B (aC (isNeg (zv (a,d)+zv A)) fun g=>aC (dg (zv (a,d)+zv A).natAbs) fun h=>some [D.agg [sc (bool e),ints u32 f,sc (bool g),ints u32 h,sc (int i64 c)]])))):=eJ aU
def aTS(a b q:Int):D:=.agg [.sc (.bool (isNeg a)),.ints .u32 (dg a.natAbs),.sc (.bool (isNeg b)),.ints .u32 (dg b.natAbs),.sc (.int .i64 q)]
def sp(x:Bool×List Int)(o q:Int):Prop×List D:=(dP x/\-9223372036854775808<=o/\o<9223372036854775808,[aTS (zv x-o) (zv x+o) q])
theorem spec:sR E f186 aF nM (pN .i64) (pN .i64) sp:=by
 rintro x o q ⟨hx,h0,h1⟩;have ko:dP (isNeg o,dg o.natAbs):=dU (k:=64) (dX.2 (by have:(2:Nat)^64=18446744073709551616:=rfl;omega)) (by decide);refine(start x.1 x.2 o q).trans ?_;rw[gP ⟨h0,h1⟩,gP ⟨hx,ko⟩,aB,aB,gP ⟨h0,h1⟩,gP ⟨hx,ko⟩,aB,aB,iX];rfl
def aJ:dG:=orc3 nM (pN .i64) (pN .i64) sp
theorem ok:OK 186 aJ:=(dZ E aF (aA Bt.ok (aA aAV.ok (aA Ua.ok aE))) func186).Cq rfl spec
end tA
namespace gR
def E:=mE [(166,Is.aJ),(219,fN.aJ),(76,Bu.aJ),(221,oG.aJ)] 59 [] [(3,[2,3,4]),(6,[2,3,4,5,6]),(8,[2,4,5,6])] [3,6,8]
def aF:=bd f187
theorem aU:Nk E aF:=nk
def J3 a b c d e f g h i j k l m:=lE E f187 aF 3 [bM 0 98 [bC a,gU b,bC c,gU d,cV e],bM 1 98 [bC f,gU g,bC h,gU i,cV j],bM 2 98 [bC k,sc (slice none 0 0),bC l,sc (slice none 0 0),cV m]]
def J6 a b c d e f g h i j k l m n o p q:=lE E f187 aF 6 [bM 0 98 [bC a,gU b,bC c,gU d,cV e],bM 1 98 [bC f,gU g,bC h,gU i,cV j],bM 2 98 [bC k,sc (slice none 0 0),bC l,sc (slice none 0 0),cV m],bM 3 74 [bC n,gU o],bM 4 74 [bC p,gU q]]
def J8 a b c d e f g h i j k l:=lE E f187 aF 8 [bM 0 98 [bC a,gU b,bC c,gU d,cV e],bM 1 98 [bC f,sc (slice none 0 0),bC g,sc (slice none 0 0),cV h],bM 2 74 [bC i,gU j],bM 3 74 [bC k,gU l]]
theorem start a b c d e f g h i j:aG E f187 aF [D.agg [sc (bool a),ints u32 b,sc (bool c),ints u32 d,sc (int i64 e)],D.agg [sc (bool f),ints u32 g,sc (bool h),ints u32 i,sc (int i64 j)]]=aD f (aO (dP (c,d)) (aC (isNeg (-zv (c,d))) fun k=>aC (dg (-zv (c,d)).natAbs) fun l=>aO (dP (a,b)) (aC (isNeg (-zv (a,b))) fun m=>aC (dg (-zv (a,b)).natAbs) fun n=>aO (dP (h,i)) (aC (isNeg (-zv (h,i))) fun o=>aC (dg (-zv (h,i)).natAbs) fun p=>aO (dP (f,g)) (aC (isNeg (-zv (f,g))) fun q=>aC (dg (-zv (f,g)).natAbs) fun r=>gR.J3 k l m n e o p q r j false false 0))))) (gR.J3 a b c d e f g h i j false false 0):=eJ aU
theorem fB a b c d e f g h i j k l m:J3 a b c d e f g h i j k l m=aD a (gR.J6 a b c d e f g h i j k l m f g f g) (gR.J6 a b c d e f g h i j k l m h i f g):=cJ aU
theorem uI a b c d e f g h i j k l m n o p q:J6 a b c d e f g h i j k l m n o p q=aD c (gR.J8 a b c d e k l m n o h i) (gR.J8 a b c d e k l m n o p q):=cJ aU
theorem Am a b c d e f g h i j k l:J8 a b c d e f g h i j k l=letI F:=zv (c,d)*(2:Int)^e.toNat;letI C:=zv (a,b)*(2:Int)^e.toNat;aO (dP (a,b)/\e<=1099511627776) (aC (isNeg C) fun m=>aC (dg C.natAbs) fun n=>letI A:=fN.Va (zv (m,n)) (zv (i,j));aO (dP (m,n)/\dP (i,j)/\0<j.length/\n.length<=274877906944/\j.length<=274877906944) (aC (isNeg A) fun o=>aC (dg A.natAbs) fun p=>aO (dP (c,d)/\e<=1099511627776) (aC (isNeg F) fun q=>aC (dg F.natAbs) fun r=>letI B:=oG.Dr (zv (q,r)) (zv (k,l));aO (dP (q,r)/\dP (k,l)/\0<l.length/\r.length<=274877906942/\l.length<=274877906944) (aC (isNeg B) fun s=>aC (dg B.natAbs) fun t=>some [D.agg [sc (bool o),ints u32 p,sc (bool s),ints u32 t,sc (int i64 e)]])))):=cJ aU
def aFM(aL aH bL bH:Int)(q:Int):Int×Int:=(fN.Va (aL*2^q.toNat) (bif isNeg aL then bL else bH),oG.Dr (aH*2^q.toNat) (bif isNeg aH then bH else bL))
def Uw(aL aH bL bH:Int)(q:Int):Int×Int:=bif isNeg bL then aFM (-aH) (-aL) (-bH) (-bL) q else aFM aL aH bL bH q
open kJ in
def sp (s t:aZO):Prop×List D:=((dP (nL s)/\dP (nH s)/\dP (nL t)/\dP (nH t))/\(bl (zv (nL s)).natAbs<=500000/\bl (zv (nH s)).natAbs<=500000/\bl (zv (nL t)).natAbs<=500000/\bl (zv (nH t)).natAbs<=500000)/\(0<=s.2.2.2.2/\s.2.2.2.2<=500000)/\zv (nL t)≠0/\zv (nH t)≠0,
 [tA.aTS (Uw (zv (nL s)) (zv (nH s)) (zv (nL t)) (zv (nH t)) s.2.2.2.2).1 (Uw (zv (nL s)) (zv (nH s)) (zv (nL t)) (zv (nH t)) s.2.2.2.2).2 s.2.2.2.2])
theorem vI{z:Int}{q:Int}(hz:bl z.natAbs<=500000)(hq:q<=500000):bl (z*2^q.toNat).natAbs<=1000000:=by
 rw[cDE,cLP];exact bYC (cH.Db hz) (by omega)
theorem bGZ{aL aH u o q x9:Int}{b5 b6:Bool}(ha:bl aL.natAbs<=500000)(hb:bl aH.natAbs<=500000)(hu:bl u.natAbs<=500000)(ho:bl o.natAbs<=500000)(q0:0<=q)(q1:q<=500000)(u0:u≠0)(o0:o≠0) :
  J8 (isNeg aL) (dg aL.natAbs) (isNeg aH) (dg aH.natAbs) q b5 b6 x9 (isNeg u) (dg u.natAbs) (isNeg o) (dg o.natAbs)=some [tA.aTS (fN.Va (aL*2^q.toNat) u) (oG.Dr (aH*2^q.toNat) o) q]:=by
 have l1:=fD (vI ha q1);have l2:=fD (vI hb q1);have l3:=fD hu;have l4:=fD ho;have n3:0<(dg u.natAbs).length:=by have:=fT (n:=u.natAbs);omega
 have n4:0<(dg o.natAbs).length:=by have:=fT (n:=o.natAbs);omega
 rw[Am];simp only[aB,iX];rw[gP ⟨dU ha (by omega),by omega⟩,gP ⟨dU (vI ha q1) (by omega),dU hu (by omega),n3,by omega,by omega⟩,gP ⟨dU hb (by omega),by omega⟩,gP ⟨dU (vI hb q1) (by omega),dU ho (by omega),n4,by omega,by omega⟩];rfl
theorem bPS{aL aH bL bH q x9 x12:Int}{b10 b11:Bool}(ha:bl aL.natAbs<=500000)(hb:bl aH.natAbs<=500000)(hu:bl bL.natAbs<=500000)(ho:bl bH.natAbs<=500000)(q0:0<=q)(q1:q<=500000)(u0:bL≠0)(o0:bH≠0) :
  J3 (isNeg aL) (dg aL.natAbs) (isNeg aH) (dg aH.natAbs) q (isNeg bL) (dg bL.natAbs) (isNeg bH) (dg bH.natAbs) x9 b10 b11 x12=some [tA.aTS (aFM aL aH bL bH q).1 (aFM aL aH bL bH q).2 q]:=by
 unfold aFM;dsimp only;rw[fB];cases h1:isNeg aL with
 |true =>
  rw[bT,uI,cond_true];cases h2:isNeg aH with
  |true=>rw[bT,cond_true];have j:=bGZ (x9:=x12) (b5:=b10) (b6:=b11) ha hb hu ho q0 q1 u0 o0;rw[h1,h2]at j;exact j
  |false=>rw[bF,cond_false];have j:=bGZ (x9:=x12) (b5:=b10) (b6:=b11) ha hb hu hu q0 q1 u0 u0;rw[h1,h2]at j;exact j
 |false =>
  rw[bF,uI,cond_false];cases h2:isNeg aH with
  |true=>rw[bT,cond_true];have j:=bGZ (x9:=x12) (b5:=b10) (b6:=b11) ha hb ho ho q0 q1 o0 o0;rw[h1,h2]at j;exact j
  |false=>rw[bF,cond_false];have j:=bGZ (x9:=x12) (b5:=b10) (b6:=b11) ha hb ho hu q0 q1 o0 u0;rw[h1,h2]at j;exact j
open kJ in
theorem spec (s t:aZO) (h:(sp s t).1):aG E f187 aF [(pG (.pair sB (.pair (sI .u32) (.pair sB (.pair (sI .u32) (sN .i64)))))).put s,(pG (.pair sB (.pair (sI .u32) (.pair sB (.pair (sI .u32) (sN .i64)))))).put t]=some (sp s t).2:=by
 obtain⟨⟨k1,k2,k3,k4⟩,⟨b1,b2,b3,b4⟩,⟨q0,q1⟩,t0,t1⟩:=h;refine(start s.1 s.2.1 s.2.2.1 s.2.2.2.1 s.2.2.2.2 t.1 t.2.1 t.2.2.1 t.2.2.2.1 t.2.2.2.2).trans ?_;have e1:(s.1,s.2.1)=nL s:=rfl;have e2:(s.2.2.1,s.2.2.2.1)=nH s:=rfl;have e3:(t.1,t.2.1)=nL t:=rfl;have e4:(t.2.2.1,t.2.2.2.1)=nH t:=rfl;have c1:=k1.cells;have c2:=k2.cells;have c3:=k3.cells;have c4:=k4.cells;have nb:∀{z:Int},bl z.natAbs<=500000->bl (-z).natAbs<=500000:=fun h=>by rw[cFM];exact h
 unfold sp Uw;dsimp only;rw[c3.1];show aD (nL t).1 _ _=_;simp only[aB,e1,e2,e3,e4];cases hn:(nL t).1 with
 |true =>
  rw[bT,gP k2,gP k1,gP k4,gP k3,cond_true];exact bPS (nb b2) (nb b1) (nb b4) (nb b3) q0 q1 (by omega) (by omega)
 |false =>
  rw[bF,cond_false];have r:=bPS (x9:=t.2.2.2.2) (x12:=0) (b10:=false) (b11:=false) b1 b2 b3 b4 q0 q1 t0 t1;rw[c1.1,c1.2,c2.1,c2.2,c3.1,c3.2,c4.1,c4.2]at r;exact r
def aJ:dG:=orc2 (pG (.pair sB (.pair (sI .u32) (.pair sB (.pair (sI .u32) (sN .i64)))))) (pG (.pair sB (.pair (sI .u32) (.pair sB (.pair (sI .u32) (sN .i64)))))) sp
theorem ok:OK 187 aJ:=(dZ E aF (aA Is.ok (aA fN.ok (aA Bu.ok (aA oG.ok aE)))) func187).jR rfl spec
end gR
end W
namespace M
open Go AI W
theorem aJL(m e:Int):((mY.Zc m e:Int):Rat)<=(m:Rat)*R.pz e/\(m:Rat)*R.pz e<((mY.Zc m e:Int):Rat)+1/\(0<=e->((mY.Zc m e:Int):Rat)=(m:Rat)*R.pz e):=by
 unfold mY.Zc
 by_cases h:0<=e
 ·rw[if_pos h];obtain⟨k,rfl⟩:=cCM h;have e1:((m*2^k:Int):Rat)=(m:Rat)*R.pz (k:Int):=by
   rw[R.iF,cEV];congr 1
  rw[cBF,e1];refine⟨cDM,by grind,fun _=>rfl⟩
 ·rw[if_neg h];obtain⟨k,hk⟩:=cCM (show 0<=-e by omega);rw[hk,cBF,show e=-(k:Int) by omega,R.vJ];obtain⟨c1,c2⟩:=yE (z:=m) (k:=k);have h2:=R.Nc k;have h3:=R.zF k;generalize ((m/((2^k:Nat):Int):Int):Rat)=d at *;generalize ((2^k:Nat):Rat)=K at *;generalize R.hf k=g at *;have m1:=R.aM (cCJ h3) (show 0<=(m:Rat)-d*K by grind);have m2:=cCX h3 (show 0<(d+1)*K-(m:Rat) by grind);have e1:∀v:Rat,g*(v*K)=v:=fun v=>by rw[cIU v K,<-cEU,h2];grind
  have e2:=e1 d;have e3:=e1 (d+1);refine⟨by grind,by grind,fun hh=>absurd hh (by omega)⟩
theorem aKE{a b:Int}(hb:0<b):-(b:Rat)<=2*((a:Rat)-(pT.Pm a b:Rat)*(b:Rat))/\2*((a:Rat)-(pT.Pm a b:Rat)*(b:Rat))<=(b:Rat):=by
 have hd:=cGY a b;have h0:=cGZ a (show b≠0 by omega);have h1:=cHA a hb;have hc:b*(a/b)=a/b*b:=Int.mul_comm _ _;have h:-b<=2*(a-pT.Pm a b*b)/\2*(a-pT.Pm a b*b)<=b:=by
  unfold pT.Pm;split
  ·rename_i c;rw[Int.add_mul,Int.one_mul];generalize a/b*b=P at *;rcases c with c |c <;> omega
  ·rename_i c;rw[cJN];generalize a/b*b=P at *;omega
 constructor
 ·have:((-b:Int):Rat)<=((2*(a-pT.Pm a b*b):Int):Rat):=by exact_mod_cast h.1
  rwa [cIX,cEV,cLB,cEV]at this
 ·have:((2*(a-pT.Pm a b*b):Int):Rat)<=(b:Rat):=by exact_mod_cast h.2
  rwa [cEV,cLB,cEV]at this
theorem aJQ{G X K f P p Q y:Rat}(hG:G=Q*(16*P))(P1:1<=P)(Q1:1208925819614629174706176<=Q)(aX:R.ab X<=P)(f0:0<=f)(f1:f<=G*p)(f2:G*p<f+1)(p1:314159/100000<p)(p2:p<314160/100000)
  (n1:-f<=2*(2*(G*X)-K*f)) (n2:2*(2*(G*X)-K*f)<=f) (m1:y*(32*P)<=2*(G*X)-K*f) (m2:2*(G*X)-K*f<(y+1)*(32*P)) :
  R.ab (y-Q*(X-K*(p/2)))<=2/\Q*R.ab (X-K*(p/2))<=Q*(p/4)+1:=by
 have QP:=R.aM (show 0<=Q-1 by grind) (show 0<=P-1 by grind);have G1:256<=G:=by rw[hG];grind
 have Gp:=R.aM (show 0<=G by grind) (show 0<=p-314159/100000 by grind);have bXG:=R.aM (show 0<=G by grind) (show 0<=314160/100000-p by grind);have f3:3*G<=f:=by grind
 have f4:f<=4*G:=by grind
 have k0:=R.bB K;have eX:R.ab (2*(G*X))=2*(G*R.ab X):=by
  rw[R.eA,R.eA,R.bW (show(0:Rat)<=2 by grind),R.bW (show 0<=G by grind)]
 have eK:R.ab (K*f)=R.ab K*f:=by rw[R.eA,R.bW f0]
 have bWW:R.ab K*f<=2*(G*R.ab X)+f/2:=by
  rw[<-eK,<-eX];have a1:=R.Ah (2*(G*X));have a2:=R.mG (2*(G*X));rw[R.dJ];constructor <;> grind
 have g1:=R.aM (show 0<=G by grind) (show 0<=P-R.ab X by grind);have g2:=R.aM k0 (show 0<=f-3*G by grind);have aK:3*R.ab K<=2*P+2:=by
  refine R.bP (q:=G) (by grind) ?_;grind
 have kd:R.ab (K*(G*p-f))<=R.ab K:=by
  rw[R.eA,R.bW (show 0<=G*p-f by grind)];have:=R.aM k0 (show 0<=1-(G*p-f) by grind);grind
 rw[R.dJ]at kd;have e2:2*(G*X)-K*f-K*(G*p-f)=32*P*(Q*(X-K*(p/2))):=by rw[hG];grind
 have P0:0<32*P:=by grind
 refine⟨?_,?_⟩
 ·rw[R.dJ];constructor
  ·refine R.bP P0 ?_;have e4:32*P*(y-Q*(X-K*(p/2)))=32*P*y-32*P*(Q*(X-K*(p/2))):=by grind
   rw[e4,<-e2];generalize K*(G*p-f)=Z at *;grind
  ·refine R.bP P0 ?_;have e4:32*P*(y-Q*(X-K*(p/2)))=32*P*y-32*P*(Q*(X-K*(p/2))):=by grind
   rw[e4,<-e2];generalize K*(G*p-f)=Z at *;grind
 ·refine R.bP P0 ?_;have e3:32*P*(Q*R.ab (X-K*(p/2)))=R.ab (32*P*(Q*(X-K*(p/2)))):=by
   rw[R.eA (32*P),R.eA Q,R.bW (cCJ P0),R.bW (show 0<=Q by grind)]
  rw[e3,<-e2,R.dJ];have e4:32*P*(Q*(p/4)+1)=G*p/2+32*P:=by rw[hG];grind
  rw[e4];generalize K*(G*p-f)=Z at *;constructor <;> grind
theorem aVW{q:Int}(h:80<=q):1208925819614629174706176<=R.pz q:=by
 have:=R.cN h;have e:R.pz 80=1208925819614629174706176:=by rw[show(80:Int)=((80:Nat):Int) by rfl,R.iF];norm_cast
 rw[e]at this;exact this
theorem aFO{m e q:Int}(h:Up m e)(hq:80<=q/\q<=134700):R.oY (R.qz (m,e)) (k7 m e q)/\R.ab ((y7 m e q:Rat)-R.pz q*(R.qz (m,e)-(k7 m e q:Rat)*(R.pi/2)))<=2:=by
 obtain⟨z0,z1,e0,e1⟩:=h;obtain⟨q1,q2⟩:=R.mR;have bm:bl m.natAbs<=53:=dX.2 (by have:(2:Nat)^53=9007199254740992:=rfl;omega);have b0:=oO (n:=m.natAbs) (by omega);have bPO:=aVW hq.1;have Qp:=R.cY q;obtain⟨tl,th⟩:=nR (p:=(m,e)) z0;have ht:bI (m,e)=e+(bl m.natAbs:Nat)-1:=rfl;have tT:t7 m e=(if(bl m.natAbs:Int)+e>0 then(bl m.natAbs:Int)+e else 0)+4:=rfl;have tb:4<=t7 m e/\t7 m e<=1028/\bI (m,e)+1<=t7 m e-4:=by rw[tT];split <;> omega
 have eX:∀a:Int,(m:Rat)*R.pz (e+a)=R.qz (m,e)*R.pz a:=fun a=>by
  unfold R.qz;dsimp only;rw[R.iG];grind
 obtain⟨x1,x2,x3⟩:=aJL m (e+(q+t7 m e));have hx:mY.Zc m (e+(q+t7 m e))=x7 m e q:=rfl;rw[hx,eX]at x1 x2 x3;obtain⟨w,hw⟩:=cCM (show 0<=q+t7 m e by omega);have Wp:=R.cY (q+t7 m e);have bWY:=aVW (show 80<=q+t7 m e by omega);have ax:R.ab ((x7 m e q:Int):Rat)=(((x7 m e q).natAbs:Nat):Rat):=La _;cases hs:aJE m e q with
 |true =>
  have hk:k7 m e q=0:=by unfold k7;rw[hs];rfl
  have hy:y7 m e q=mY.Zc m (e+q):=by unfold y7;rw[hs];rfl
  have k0:((0:Int):Rat)=0:=by norm_cast
  have er:R.qz (m,e)-((0:Int):Rat)*(R.pi/2)=R.qz (m,e):=by rw[k0];grind
  obtain⟨c1,c2,_⟩:=aJL m (e+q);rw[eX]at c1 c2;unfold aJE at hs;rw[bXN]at hs;have h3:=of_decide_eq_true hs.2;rw[hw,cBF]at h3;have aYG:(((x7 m e q).natAbs:Nat):Rat)*4<=R.pz (q+t7 m e)*3:=by
   rw[hw,R.iF];exact_mod_cast h3
  rw[<-ax]at aYG;have a1:=R.Ah ((x7 m e q:Int):Rat);have a2:=R.mG ((x7 m e q:Int):Rat);have aX:R.ab (R.qz (m,e))<=77/100:=by
   rw[R.dJ];constructor
   ·refine R.bP Wp ?_;grind
   ·refine R.bP Wp ?_;grind
  rw[hk,hy,er];refine⟨?_,?_⟩
  ·unfold R.oY;rw[er];grind
  ·rw[R.dJ];constructor <;> grind
 |false =>
  have aX:1/2<=R.ab (R.qz (m,e)):=by
   unfold aJE at hs
   by_cases c4:t7 m e=4
   ·rw[decide_eq_true c4,cAJ]at hs;have h3:=of_decide_eq_false hs;rw[hw,cBF]at h3;have aYG:R.pz (q+t7 m e)*3<=(((x7 m e q).natAbs:Nat):Rat)*4:=by
     rw[hw,R.iF];exact_mod_cast(show((2^w*3:Nat):Int)<=((x7 m e q).natAbs:Int)*4 by omega)
    rw[<-ax]at aYG;have a1:=R.Ah (R.qz (m,e));have a2:=R.mG (R.qz (m,e));have m1:=R.aM (cCJ Wp) (show 0<=R.ab (R.qz (m,e))-R.qz (m,e) by grind);have m2:=R.aM (cCJ Wp) (show 0<=R.ab (R.qz (m,e))+R.qz (m,e) by grind);have a3:R.ab ((x7 m e q:Int):Rat)<=R.pz (q+t7 m e)*R.ab (R.qz (m,e))+1:=by
     rw[R.dJ];constructor <;> grind
    refine R.bP Wp ?_;grind
   ·have:(bl m.natAbs:Int)+e>0:=by rw[tT]at c4;split at c4 <;> omega
    have:=R.cN (show 0<=bI (m,e) by omega);rw[R.fA]at this;grind
  have he:-53<=e:=by
   refine Int.not_lt.1 fun hn=>?_
   have h2:=R.cN (show bI (m,e)+1<=-1 by omega);have h3:=R.pW 0;rw[R.fA,show(0:Int)-1=-1 by rfl]at h3;grind
  have x3:=x3 (by omega);have hk:k7 m e q=pT.Pm (x7 m e q*2) (R.pF w:Nat):=by unfold k7;rw[hs,hw];rfl
  have hy:y7 m e q=(x7 m e q*2-k7 m e q*(R.pF w:Nat))/((2^(t7 m e+1).toNat:Nat):Int):=by unfold y7;rw[hs,hw];rfl
  obtain⟨f1,f2⟩:=R.Fy (q:=w) (by omega);have F0:=(cH.Cp (g:=w) (by omega)).2;obtain⟨n1,n2⟩:=aKE (a:=x7 m e q*2) (b:=(R.pF w:Nat)) (by omega);rw[<-hk,cEV,cEW,x3]at n1 n2;obtain⟨m1,m2⟩:=yE (z:=x7 m e q*2-k7 m e q*(R.pF w:Nat)) (k:=(t7 m e+1).toNat);rw[<-hy,cLB,cEV,cEV,cEW,x3]at m1 m2;have eP:((2^(t7 m e+1).toNat:Nat):Rat)=32*R.pz (t7 m e-4):=by
   rw[<-R.iF,show(((t7 m e+1).toNat:Nat):Int)=t7 m e-4+((5:Nat):Int) by omega,R.dT];have:((2^5:Nat):Rat)=32:=by norm_cast
   rw[this];grind
  have eG:R.pz (q+t7 m e)=R.pz q*(16*R.pz (t7 m e-4)):=by
   rw[R.iG,show t7 m e=t7 m e-4+((4:Nat):Int) by omega,R.dT];have:((2^4:Nat):Rat)=16:=by norm_cast
   rw[this,show t7 m e-4+((4:Nat):Int)-4=t7 m e-4 by omega];grind
  have P1:1<=R.pz (t7 m e-4):=by rw[<-R.fA];exact R.cN (by omega)
  have aP:R.ab (R.qz (m,e))<=R.pz (t7 m e-4):=by
   have:=R.cN tb.2.2;grind
  rw[eP]at m1 m2;have two:((2:Int):Rat)=2:=by norm_cast
  rw[two]at n1 n2 m1 m2;rw[<-R.iF,<-hw]at f1 f2;have bXH:(0:Rat)<=(R.pF w:Rat):=by exact_mod_cast cCR _
  obtain⟨r1,r2⟩:=aJQ (G:=R.pz (q+t7 m e)) (X:=R.qz (m,e)) (K:=(k7 m e q:Rat)) (f:=(R.pF w:Rat)) (P:=R.pz (t7 m e-4)) (p:=R.pi) (Q:=R.pz q) (y:=(y7 m e q:Rat)) eG P1 bPO aP bXH f1 f2 q1 q2 (by grind) (by grind) (by grind) (by grind);refine⟨?_,r1⟩;unfold R.oY;refine R.bP Qp ?_;grind
end M
namespace M
open Go AI W
def q7(m e p:Int):Int:=p+80+(if -((bl m.natAbs:Int)+e)>0 then -((bl m.natAbs:Int)+e)else 0)
def aVT(k s c:Int):Int:=if k%4=0 then s else if k%4=1 then c else if k%4=2 then -s else -c
def aVV(k s c:Int):Int:=if k%4=0 then c else if k%4=1 then -s else if k%4=2 then -c else s
def vS(m e q:Int):Int:=aVT (k7 m e q) (Ed (y7 m e q) q.toNat) (Es (y7 m e q) q.toNat)
def vC(m e q:Int):Int:=aVV (k7 m e q) (Ed (y7 m e q) q.toNat) (Es (y7 m e q) q.toNat)
def Ia(fn m e q:Int):Int×Int:=if fn=2 then(vC m e q-8,vC m e q+8)else if fn=3 then gR.Uw (vS m e q-8) (vS m e q+8) (vC m e q-8) (vC m e q+8) q else(vS m e q-8,vS m e q+8)
theorem aBY{a b p:Int}(hp:0<=p)(aRI:a<=b)(h:(0<(a:Rat)/\((b:Rat)-(a:Rat))*R.pz p<=(a:Rat))\/((b:Rat)<0/\((b:Rat)-(a:Rat))*R.pz p<=-(b:Rat))):kJ.Yi a b p=true:=by
 obtain⟨n,rfl⟩:=cCM hp;rw[R.iF]at h;have e:((b:Rat)-(a:Rat))*((2^n:Nat):Rat)=(((b-a)*2^n:Int):Rat):=by
  rw[cEV,cLB];congr 1
 rw[e]at h;have cp:∀z:Int,cT z 0=if z<0 then -1 else if 0<z then 1 else 0:=fun _=>rfl
 unfold kJ.Yi;rw[cBF,cp,cp];rcases h with ⟨h1,h2⟩ |⟨h1,h2⟩
 ·have a0:0<a:=by exact_mod_cast h1
  have h2:(b-a)*2^n<=a:=Rat.intCast_le_intCast.1 h2;rw[if_neg (show ¬a<0 by omega),if_pos a0,if_neg (show ¬b<0 by omega),if_pos (show 0<b by omega),show((1:Int) !=1)=false from rfl,cond_false,show((1:Int)==0)=false from rfl,cond_false,fH.2 (by omega),cond_false];exact decide_eq_true (by omega)
 ·have b0:b<0:=by exact_mod_cast h1
  have h2:(b-a)*2^n<=-b:=by
   refine Rat.intCast_le_intCast.1 ?_;rw[cIX];exact h2
  rw[if_pos (show a<0 by omega),if_pos b0,show((-1:Int) !=-1)=false from rfl,cond_false,show((-1:Int)==0)=false from rfl,cond_false,jL.2 (by omega),cond_true];exact decide_eq_true (by omega)
theorem aPX{k s c:Int}{S C d:Rat}(hs:R.ab ((s:Rat)-S)<=d)(hc:R.ab ((c:Rat)-C)<=d):R.ab ((aVT k s c:Rat)-R.rs k S C)<=d/\R.ab ((aVV k s c:Rat)-R.rc k S C)<=d:=by
 have n:∀(z:Int) (Z:Rat),R.ab ((z:Rat)-Z)<=d->R.ab (((-z:Int):Rat) - -Z)<=d:=fun z Z h=>by
  rw[cIX,<-R.iB];have e:-(-(z:Rat) - -Z)=(z:Rat)-Z:=by grind
  rw[e];exact h
 unfold aVT aVV R.rs R.rc;split
 ·exact⟨hs,hc⟩
 ·split
  ·exact⟨hc,n _ _ hs⟩
  ·split
   ·exact⟨n _ _ hs,n _ _ hc⟩
   ·exact⟨n _ _ hc,hs⟩
theorem Ti{a b:Int}(hb:0<b){v:Rat}(hv:v*(b:Rat)=(a:Rat)):((fN.Va a b:Int):Rat)<=v/\v<((fN.Va a b:Int):Rat)+1:=by
 have b0:(0:Rat)<(b:Rat):=by exact_mod_cast hb
 unfold fN.Va;rw[bG];have h1:=Int.ediv_mul_le a (show b≠0 by omega);have h2:=Int.lt_ediv_add_one_mul_self a hb;have aDW:((a/b:Int):Rat)*(b:Rat)<=(a:Rat):=by
  have:((a/b*b:Int):Rat)<=(a:Rat):=Rat.intCast_le_intCast.2 h1;rwa [cEV]at this
 have aYH:(a:Rat)<(((a/b:Int):Rat)+1)*(b:Rat):=by
  have:(a:Rat)<(((a/b+1)*b:Int):Rat):=Rat.intCast_lt_intCast.2 h2;rwa [cEV,cIY]at this
 constructor
 ·refine R.bP b0 ?_;grind
 ·refine R.qQ b0 ?_;grind
theorem aEP{a b:Int}(hb:0<b){v:Rat}(hv:v*(b:Rat)=(a:Rat)):v<=((oG.Dr a b:Int):Rat)/\((oG.Dr a b:Int):Rat)<v+1:=by
 have:=Ti (a:=-a) hb (v:=-v) (by rw[cIX];grind);unfold oG.Dr;rw[cIX];constructor <;> grind
theorem aMX{a q:Int}(hq:0<=q):((a*2^q.toNat:Int):Rat)=(a:Rat)*R.pz q:=by
 obtain⟨n,rfl⟩:=cCM hq;rw[R.iF,cEV,cBF];congr 1
theorem aJO{s c q:Int}{S C V ρ:Rat}(hq:0<=q)(hs:R.ab ((s:Rat)-R.pz q*S)<=6)(hc:R.ab ((c:Rat)-R.pz q*C)<=6)(S0:S≠0)(C0:0<C)(C1:C<=1)(hV:V*C=S)(r0:0<=ρ)(r1:ρ<=1/64)(wS:16<=R.pz q*(ρ*R.ab S))(wC:16<=R.pz q*(ρ*C)) :
  ((gR.aFM (s-8) (s+8) (c-8) (c+8) q).1:Rat)+2<=R.pz q*V/\R.pz q*V+2<=((gR.aFM (s-8) (s+8) (c-8) (c+8) q).2:Rat) /\
  ((gR.aFM (s-8) (s+8) (c-8) (c+8) q).2:Rat)-((gR.aFM (s-8) (s+8) (c-8) (c+8) q).1:Rat)<=5*ρ*(R.pz q*R.ab V)+2:=by
 have Q:=R.cY q;have G:=R.cY (-q);have gi:=R.Ma q;have eight:((8:Int):Rat)=8:=by norm_cast
 rw[R.dJ]at hs hc;obtain⟨g,hg⟩:∃g,g=R.pz (-q):=⟨_,rfl⟩;rw[<-hg]at G gi;obtain⟨Z,hZ⟩:∃Z,Z=R.pz q:=⟨_,rfl⟩;rw[<-hZ]at hs hc wS wC Q gi ⊢;have gZ:∀v:Rat,g*(Z*v)=v:=fun v=>by rw[<-cEU,cIU g,gi];grind
 have sc:∀(u v:Rat),u<=v->g*u<=g*v:=fun u v h=>by have:=R.aM (cCJ G) (show 0<=v-u by grind);grind
 have c1:=sc _ _ hc.1;have c2:=sc _ _ hc.2;have s1:=sc _ _ hs.1;have s2:=sc _ _ hs.2;have e1:=gZ C;have e2:=gZ S;have w1:=sc _ _ wC;have w2:=sc _ _ wS;rw[gZ]at w1 w2;have cS:(((s-8:Int)):Rat)=(s:Rat)-8/\(((s+8:Int)):Rat)=(s:Rat)+8/\(((c-8:Int)):Rat)=(c:Rat)-8/\(((c+8:Int)):Rat)=(c:Rat)+8:=by
  rw[cLB,cIY,cLB,cIY,eight];exact⟨rfl,rfl,rfl,rfl⟩
 obtain⟨x1,x2,x3,x4⟩:=cS;have rC:=R.aM (cCJ C0) (show 0<=1/64-ρ by grind);have u0:0<g*((c:Rat)-8):=by grind
 have v0:0<g*((c:Rat)+8):=by grind
 have pos:∀w:Rat,0<g*w->0<w:=fun w h=>by
  refine Rat.not_le.1 fun hn=>?_
  have:=R.aM (cCJ G) (show 0<=-w by grind);grind
 have cl:0<c-8:=by
  have:=pos _ u0;rw[<-x3]at this;exact_mod_cast this
 have ch:0<c+8:=by omega
 have Qz:∀a b:Rat,b≠0->a/b*b=a:=fun a b h=>by grind
 have gne:g≠0:=by grind
 have aGV:∀(a b:Int) (x:Rat),x*(g*(b:Rat))=g*(a:Rat)->(Z*x)*(b:Rat)=((a*2^q.toNat:Int):Rat):=by
  intro a b x h;rw[aMX hq,<-hZ];have:x*(b:Rat)=(a:Rat):=by
   have h2:g*(x*(b:Rat))=g*(a:Rat):=by rw[<-h];grind
   exact Rat.le_antisymm (R.bP G (by rw[h2];exact cDM)) (R.bP G (by rw[h2];exact cDM))
  grind
 unfold gR.aFM
 by_cases hS:0<S
 ·rw[R.bW (cCJ hS)]at w2;have rS:=R.aM (cCJ hS) (show 0<=1/64-ρ by grind);have sl:0<s-8:=by
   have:=pos ((s:Rat)-8) (by grind);rw[<-x1]at this;exact_mod_cast this
  rw[fH.2 (show 0<=s-8 by omega),fH.2 (show 0<=s+8 by omega),cond_false,cond_false];obtain⟨d1,d2,d3,d4,V0,q0⟩:=Gj (a:=g*((s:Rat)-8)) (b:=g*((s:Rat)+8)) (u:=g*((c:Rat)-8)) (v:=g*((c:Rat)+8)) (S:=S) (C:=C) (V:=V) (ρ:=ρ) (m:=2*g) (q1:=g*((s:Rat)-8)/(g*((c:Rat)+8))) (q2:=g*((s:Rat)+8)/(g*((c:Rat)-8))) (by grind) (by grind) (by grind) (by grind) (by grind) (by grind) (by grind) hS C0 C1 r0 r1 hV (Qz _ _ (by grind)) (Qz _ _ (by grind));have k1:=Qz (g*((s:Rat)-8)) (g*((c:Rat)+8)) (by grind);have k2:=Qz (g*((s:Rat)+8)) (g*((c:Rat)-8)) (by grind);generalize g*((s:Rat)-8)/(g*((c:Rat)+8))=y1 at *;generalize g*((s:Rat)+8)/(g*((c:Rat)-8))=y2 at *;rw[<-x1,<-x4]at k1;rw[<-x2,<-x3]at k2;obtain⟨f1,f2⟩:=Ti ch (aGV _ _ _ k1);obtain⟨f3,f4⟩:=aEP cl (aGV _ _ _ k2);have z1:=R.aM (cCJ Q) (show 0<=V-2*g-y1 by grind);have z2:=R.aM (cCJ Q) (show 0<=y2-(V+2*g) by grind);have z3:=R.aM (cCJ Q) (show 0<=V+3*ρ*V-y2 by grind);have z4:=R.aM (cCJ Q) (show 0<=y1-(V-2*ρ*V) by grind);rw[R.bW (cCJ V0)];dsimp only;refine⟨by grind,by grind,by grind⟩
 ·have bEF:0 < -S:=by grind
  have eS:R.ab S=-S:=by unfold R.ab;rw[if_neg (by grind)]
  rw[eS]at w2;have rS:=R.aM (cCJ bEF) (show 0<=1/64-ρ by grind);have sh:s+8<0:=by
   have h1:0 < -((s:Rat)+8):=pos _ (by grind);have h2:(((s+8:Int)):Rat)<0:=by rw[x2];grind
   exact_mod_cast h2
  rw[jL.2 (show s-8<0 by omega),jL.2 sh,cond_true,cond_true];obtain⟨d1,d2,d3,d4,V0,q0⟩:=Gj (a:=-(g*((s:Rat)+8))) (b:=-(g*((s:Rat)-8))) (u:=g*((c:Rat)-8)) (v:=g*((c:Rat)+8)) (S:=-S) (C:=C) (V:=-V) (ρ:=ρ) (m:=2*g) (q1:=-(g*((s:Rat)+8)/(g*((c:Rat)+8)))) (q2:=-(g*((s:Rat)-8)/(g*((c:Rat)-8)))) (by grind) (by grind) (by grind) (by grind) (by grind) (by grind) (by grind) bEF C0 C1 r0 r1 (by grind) (by have:=Qz (g*((s:Rat)+8)) (g*((c:Rat)+8)) (by grind);grind) (by have:=Qz (g*((s:Rat)-8)) (g*((c:Rat)-8)) (by grind);grind);have k1:=Qz (g*((s:Rat)-8)) (g*((c:Rat)-8)) (by grind);have k2:=Qz (g*((s:Rat)+8)) (g*((c:Rat)+8)) (by grind);generalize g*((s:Rat)-8)/(g*((c:Rat)-8))=y1 at *;generalize g*((s:Rat)+8)/(g*((c:Rat)+8))=y2 at *;rw[<-x1,<-x3]at k1;rw[<-x2,<-x4]at k2;obtain⟨f1,f2⟩:=Ti cl (aGV _ _ _ k1);obtain⟨f3,f4⟩:=aEP ch (aGV _ _ _ k2);have z1:=R.aM (cCJ Q) (show 0<=V-2*g-y1 by grind);have z2:=R.aM (cCJ Q) (show 0<=y2-(V+2*g) by grind);have z3:=R.aM (cCJ Q) (show 0<=V-2*ρ*V-y2 by grind);have z4:=R.aM (cCJ Q) (show 0<=y1-(V+3*ρ*V) by grind);have aV:R.ab V=-V:=by rw[<-R.iB];exact R.bW (cCJ V0)
  rw[aV];dsimp only;refine⟨by grind,by grind,by grind⟩
end M
namespace M
open Go AI W
structure bLU(fn m e p q:Int):Prop where
 y0:y7 m e q≠0
 yb:(y7 m e q).natAbs<=2^q.toNat
 Mo:R.oY (R.qz (m,e)) (k7 m e q)
 sb:(vS m e q).natAbs<=2^(q.toNat+1)
 cb:(vC m e q).natAbs<=2^(q.toNat+1)
 cl:vC m e q-8≠0
 ch:vC m e q+8≠0
 bAI:kJ.Yi (vC m e q-8) (vC m e q+8) p=true
 th:kJ.Yi (Ia fn m e q).1 (Ia fn m e q).2 p=true
 lo:((Ia fn m e q).1:Rat)+1<=R.pz q*R.fv fn (R.qz (m,e)) (k7 m e q)
 hi:R.pz q*R.fv fn (R.qz (m,e)) (k7 m e q)+1<=((Ia fn m e q).2:Rat)
 ne:R.fv fn (R.qz (m,e)) (k7 m e q)≠0
 wd:(((Ia fn m e q).2:Rat)-((Ia fn m e q).1:Rat))*R.pz p<=R.pz q*R.ab (R.fv fn (R.qz (m,e)) (k7 m e q))
theorem aSA{m e:Int}(h:Up m e):R.Fit (R.qz (m,e)):=by
 have:=(aMJ h).fit;rwa [rL]at this
theorem Vk{v p:Int}{w:Rat}(hp:1<=p)(h:R.ab ((v:Rat)-w)<=6)(hw:R.pz (p+15)<=R.ab w):kJ.Yi (v-8) (v+8) p=true/\v-8≠0/\v+8≠0:=by
 have pp:=R.cY p;have p2:2<=R.pz p:=by rw[<-R.Ho];exact R.cN hp
 have bEO:R.pz (p+15)=32768*R.pz p:=by
  rw[show p+15=p+((15:Nat):Int) by omega,R.dT];have:((2^15:Nat):Rat)=32768:=by norm_cast
  rw[this];grind
 have eight:((8:Int):Rat)=8:=by norm_cast
 have x1:((v-8:Int):Rat)=(v:Rat)-8:=by rw[cLB,eight]
 have x2:((v+8:Int):Rat)=(v:Rat)+8:=by rw[cIY,eight]
 have a1:=R.Ah ((v:Rat)-w);have a2:=R.mG ((v:Rat)-w)
 by_cases c:0<=w
 ·rw[R.bW c]at hw;have l:0<((v-8:Int):Rat):=by rw[x1];grind
  have li:0<v-8:=by exact_mod_cast l
  refine⟨aBY (by omega) (by omega) (Or.inl ⟨l,?_⟩),by omega,by omega⟩;rw[x1,x2];grind
 ·have e:R.ab w=-w:=by unfold R.ab;rw[if_neg c]
  rw[e]at hw;have l:((v+8:Int):Rat)<0:=by rw[x2];grind
  have li:v+8<0:=by exact_mod_cast l
  refine⟨aBY (by omega) (by omega) (Or.inr ⟨l,?_⟩),by omega,by omega⟩;rw[x1,x2];grind
theorem Oe{v:Int}{n:Nat}(h:R.ab (v:Rat)<=R.pz n):v.natAbs<=2^n:=by
 rw[La,R.iF]at h;exact_mod_cast h
theorem Kg{fn m e p q:Int}(h:Up m e)(hp:1<=p)(hq:q=q7 m e p)(aXA:q<=134700)(hf:1<=fn/\fn<=3):bLU fn m e p q:=by
 have bHH:80<=q/\p+80<=q:=by rw[hq];unfold q7;split <;> omega
 obtain⟨nr,yn⟩:=aFO h ⟨bHH.1,aXA⟩;have rn:=R.Kq nr;have fit:=aSA h;obtain⟨tl,th⟩:=nR (p:=(m,e)) h.z0;have Qp:=R.cY q;have bPO:=aVW bHH.1;obtain⟨r,hr⟩:∃r,r=R.qz (m,e)-(k7 m e q:Rat)*(R.pi/2):=⟨_,rfl⟩;have bBE:R.Sf (R.qz (m,e)) (k7 m e q)=R.rs (k7 m e q) (R.sn r) (R.cs r):=by rw[hr];rfl
 have bBF:R.Cf (R.qz (m,e)) (k7 m e q)=R.rc (k7 m e q) (R.sn r) (R.cs r):=by rw[hr];rfl
 rw[<-hr]at yn rn;have low:R.pz (p+16)<=R.pz q*R.ab r:=by
  by_cases c:R.ab (R.qz (m,e))<=3/4
  ·have k0:=R.Sc c nr;have e0:((0:Int):Rat)=0:=by norm_cast
   have er:r=R.qz (m,e):=by rw[hr,k0,e0];grind
   have t:bI (m,e)=e+(bl m.natAbs:Nat)-1:=rfl;have h1:R.pz (p+16)<=R.pz q*R.pz (bI (m,e)):=by
    rw[<-R.iG];refine R.cN ?_;rw[hq,t];unfold q7;split <;> omega
   have:=R.aM (cCJ Qp) (show 0<=R.ab (R.qz (m,e))-R.pz (bI (m,e)) by grind);rw[er];grind
  ·have num:R.bBH (R.qz (m,e)):=by
    rcases fit with f |f
    ·exact f
    ·exact absurd f c
   have v:=R.aJR num (k7 m e q);rw[<-hr]at v;have h1:R.pz (p+16)<=R.pz q*R.pz (-63):=by
    rw[<-R.iG];exact R.cN (by omega)
   have bEN:=R.gE 0 (n:=63) (c:=9223372036854775808) (by norm_cast);rw[R.fA,show(0:Int)-((63:Nat):Int)=-63 by rfl]at bEN;have:=R.aM (cCJ Qp) (show 0<=R.ab r-R.pz (-63) by grind);grind
 have P16:65536<=R.pz (p+16):=by
  have:=R.cN (show(16:Int)<=p+16 by omega);have e:R.pz 16=65536:=by rw[show(16:Int)=((16:Nat):Int) by rfl,R.iF];norm_cast
  rw[e]at this;exact this
 have e16:R.pz (p+16)=2*R.pz (p+15):=by rw[<-R.jJ];congr 1;omega
 have ae:R.pz q*R.ab r=R.ab (R.pz q*r):=by rw[R.eA,R.bW (cCJ Qp)]
 have y1:=R.xG (R.pz q*r) ((y7 m e q:Rat)-R.pz q*r);have y2:=R.xG (y7 m e q:Rat) (-((y7 m e q:Rat)-R.pz q*r));rw[show R.pz q*r+((y7 m e q:Rat)-R.pz q*r)=(y7 m e q:Rat) by grind,<-ae]at y1;rw[show(y7 m e q:Rat)+-((y7 m e q:Rat)-R.pz q*r)=R.pz q*r by grind,<-ae,R.iB]at y2;have yq:R.ab (y7 m e q:Rat)<=R.pz q:=by
  have:=R.aM (cCJ Qp) (show 0<=79/100-R.ab r by grind);grind
 obtain⟨n,hn⟩:=cCM (show 0<=q by omega);have yb:(y7 m e q).natAbs<=2^q.toNat:=by
  rw[hn,cBF];rw[hn]at yq;exact Oe yq
 have y0:y7 m e q≠0:=by
  intro hz;have e0:((0:Int):Rat)=0:=by norm_cast
  have:R.ab (y7 m e q:Rat)=0:=by rw[hz,e0,R.bW cDM]
  grind
 obtain⟨Y,hY⟩:∃Y:Rat,Y*R.pz q=(y7 m e q:Rat):=⟨(y7 m e q:Rat)/R.pz q,by grind⟩;have nn:(q.toNat:Int)=q:=by omega
 obtain⟨s1,s2⟩:=aPV (y:=y7 m e q) (q:=q.toNat) yb (by omega) (Y:=Y) (by rw[nn];exact hY);rw[nn]at s1 s2;have aY:R.ab Y<=1:=by
  refine R.bP Qp ?_;have:R.pz q*R.ab Y=R.ab (y7 m e q:Rat):=by rw[<-hY,R.eA,R.bW (cCJ Qp)];grind
  grind
 have dYr:R.pz q*R.ab (Y-r)<=2:=by
  have:R.pz q*R.ab (Y-r)=R.ab ((y7 m e q:Rat)-R.pz q*r):=by rw[<-hY,show Y*R.pz q-R.pz q*r=R.pz q*(Y-r) by grind,R.eA,R.bW (cCJ Qp)]
  rw[this];exact yn
 have l1:=R.Rz (x:=r) (y:=Y) (by grind) aY;have l2:=R.aAI (x:=r) (y:=Y) (by grind) aY;have ep:R.pz q*R.uU<=1/4:=by
  have h1:=aLY (n:=140000) (by omega);have h2:=R.aM (cCJ Qp) (show 0<=R.pz (-((140000:Nat):Int))-R.uU by grind);have h3:R.pz q*R.pz (-((140000:Nat):Int))<=R.pz (-2):=by rw[<-R.iG];exact R.cN (by omega)
  have h4:=R.gE 0 (n:=2) (c:=4) (by norm_cast);rw[R.fA,show(0:Int)-((2:Nat):Int)=-2 by rfl]at h4;grind
 have z1:=R.aM (cCJ Qp) (show 0<=2*R.ab (Y-r)-R.ab (R.sn Y-R.sn r) by grind);have z2:=R.aM (cCJ Qp) (show 0<=R.ab (Y-r)+2*R.uU-R.ab (R.cs Y-R.cs r) by grind);have sS:R.ab ((Ed (y7 m e q) q.toNat:Rat)-R.pz q*R.sn r)<=6:=by
  have a:=R.xG ((Ed (y7 m e q) q.toNat:Rat)-R.pz q*R.sn Y) (R.pz q*(R.sn Y-R.sn r));rw[R.eA,R.bW (cCJ Qp),show(Ed (y7 m e q) q.toNat:Rat)-R.pz q*R.sn Y+R.pz q*(R.sn Y-R.sn r)=(Ed (y7 m e q) q.toNat:Rat)-R.pz q*R.sn r by grind]at a;grind
 have sC:R.ab ((Es (y7 m e q) q.toNat:Rat)-R.pz q*R.cs r)<=6:=by
  have a:=R.xG ((Es (y7 m e q) q.toNat:Rat)-R.pz q*R.cs Y) (R.pz q*(R.cs Y-R.cs r));rw[R.eA,R.bW (cCJ Qp),show(Es (y7 m e q) q.toNat:Rat)-R.pz q*R.cs Y+R.pz q*(R.cs Y-R.cs r)=(Es (y7 m e q) q.toNat:Rat)-R.pz q*R.cs r by grind]at a;grind
 obtain⟨t1,t2⟩:=aPX (k:=k7 m e q) sS sC;have bMS:∀(k:Int) (a b c:Rat),R.rs k (c*a) (c*b)=c*R.rs k a b/\R.rc k (c*a) (c*b)=c*R.rc k a b:=by
  intro k a b c;unfold R.rs R.rc;split
  ·exact⟨rfl,rfl⟩
  ·split
   ·exact⟨rfl,by grind⟩
   ·split
    ·exact⟨by grind,by grind⟩
    ·exact⟨by grind,rfl⟩
 rw[(bMS _ _ _ _).1,<-bBE]at t1;rw[(bMS _ _ _ _).2,<-bBF]at t2;have bVW:aVT (k7 m e q) (Ed (y7 m e q) q.toNat) (Es (y7 m e q) q.toNat)=vS m e q:=rfl;have bVX:aVV (k7 m e q) (Ed (y7 m e q) q.toNat) (Es (y7 m e q) q.toNat)=vC m e q:=rfl;rw[bVW]at t1;rw[bVX]at t2;obtain⟨c1,c2⟩:=R.Xn (r:=r) (by grind);have sn1:R.pz (p+15)<=R.pz q*R.ab (R.sn r)/\R.ab (R.sn r)<=1:=by
  rw[<-R.Yx (by grind)];obtain⟨a,b⟩:=R.aCH (R.bB r) (by grind);have:=R.aM (cCJ Qp) (show 0<=R.sn (R.ab r)-4/5*R.ab r by grind);constructor <;> grind
 have cs1:R.pz (p+15)<=R.pz q*R.ab (R.cs r)/\R.ab (R.cs r)<=1:=by
  rw[R.bW (show 0<=R.cs r by grind)];have h1:=R.cN (show p+16<=q by omega);have:=R.aM (cCJ Qp) (show 0<=R.cs r-17/25 by grind);constructor <;> grind
 have fS:R.pz (p+15)<=R.pz q*R.ab (R.Sf (R.qz (m,e)) (k7 m e q))/\R.ab (R.Sf (R.qz (m,e)) (k7 m e q))<=1:=by
  rw[bBE,aJP];split <;> assumption
 have fC:R.pz (p+15)<=R.pz q*R.ab (R.Cf (R.qz (m,e)) (k7 m e q))/\R.ab (R.Cf (R.qz (m,e)) (k7 m e q))<=1:=by
  rw[bBF,aJS];split <;> assumption
 have size:∀(v:Int) (V:Rat),R.ab ((v:Rat)-R.pz q*V)<=6->R.ab V<=1->v.natAbs<=2^(q.toNat+1):=by
  intro v V h1 h2;refine Oe ?_;rw[show((q.toNat+1:Nat):Int)=q+1 by omega,R.jJ];have a:=R.xG ((v:Rat)-R.pz q*V) (R.pz q*V);rw[show(v:Rat)-R.pz q*V+R.pz q*V=(v:Rat) by grind,R.eA,R.bW (cCJ Qp)]at a;have:=R.aM (cCJ Qp) (show 0<=1-R.ab V by grind);grind
 have bPL:∀V:Rat,R.ab (R.pz q*V)=R.pz q*R.ab V:=fun V=>by rw[R.eA,R.bW (cCJ Qp)]
 obtain⟨bAI,cl,ch⟩:=Vk (v:=vC m e q) hp t2 (by rw[bPL];exact fC.1);obtain⟨aHH,_,_⟩:=Vk (v:=vS m e q) hp t1 (by rw[bPL];exact fS.1);have ppos:=R.cY (p+15);have Mp:∀V:Rat,R.pz (p+15)<=R.pz q*R.ab V->V≠0:=fun V h hz=>by rw[hz,R.bW cDM]at h;grind
 have S0:=Mp _ fS.1;have C0:=Mp _ fC.1;have pp:=R.cY p;have bEO:R.pz (p+15)=32768*R.pz p:=by
  rw[show p+15=p+((15:Nat):Int) by omega,R.dT];have:((2^15:Nat):Rat)=32768:=by norm_cast
  rw[this];grind
 have p2:2<=R.pz p:=by rw[<-R.Ho];exact R.cN hp
 have eight:((8:Int):Rat)=8:=by norm_cast
 have bEM:∀(v:Int) (V:Rat),R.ab ((v:Rat)-R.pz q*V)<=6->R.pz (p+15)<=R.pz q*R.ab V->(((v-8:Int):Rat)+1<=R.pz q*V/\R.pz q*V+1<=((v+8:Int):Rat)/\(((v+8:Int):Rat)-((v-8:Int):Rat))*R.pz p<=R.pz q*R.ab V):=by
  intro v V h1 h2;rw[R.dJ]at h1;rw[cLB,cIY,eight];refine⟨by grind,by grind,by grind⟩
 have h3:fn=1\/fn=2\/fn=3:=by omega
 rcases h3 with rfl |rfl |rfl
 ·obtain⟨a1,a2,a3⟩:=bEM _ _ t1 fS.1;exact⟨y0,yb,nr,size _ _ t1 fS.2,size _ _ t2 fC.2,cl,ch,bAI,aHH,a1,a2,S0,a3⟩
 ·obtain⟨a1,a2,a3⟩:=bEM _ _ t2 fC.1;exact⟨y0,yb,nr,size _ _ t1 fS.2,size _ _ t2 fC.2,cl,ch,bAI,bAI,a1,a2,C0,a3⟩
 ·
  have eV:R.fv 3 (R.qz (m,e)) (k7 m e q)=R.Sf (R.qz (m,e)) (k7 m e q)/R.Cf (R.qz (m,e)) (k7 m e q):=rfl;have eE:Ia 3 m e q=gR.Uw (vS m e q-8) (vS m e q+8) (vC m e q-8) (vC m e q+8) q:=rfl;obtain⟨S,hS⟩:∃S,S=R.Sf (R.qz (m,e)) (k7 m e q):=⟨_,rfl⟩;obtain⟨C,hC⟩:∃C,C=R.Cf (R.qz (m,e)) (k7 m e q):=⟨_,rfl⟩;rw[<-hS,<-hC]at eV;rw[<-hS]at S0 fS t1;rw[<-hC]at C0 fC t2;have hV:S/C*C=S:=by grind
  have r0:=R.cY (-p-11);have r11:R.pz (-p-11)*R.pz (p+15)=16:=by
   rw[<-R.iG,show -p-11+(p+15)=((4:Nat):Int) by omega,R.iF];norm_cast
  have r1:R.pz (-p-11)<=1/64:=by
   have h1:=R.cN (show -p-11<=-6 by omega);have h4:=R.gE 0 (n:=6) (c:=64) (by norm_cast);rw[R.fA,show(0:Int)-((6:Nat):Int)=-6 by rfl]at h4;grind
  have wd:∀V:Rat,R.pz (p+15)<=R.pz q*R.ab V->16<=R.pz q*(R.pz (-p-11)*R.ab V):=by
   intro V h;have:=R.aM (cCJ r0) (show 0<=R.pz q*R.ab V-R.pz (p+15) by grind);grind
  have main:((gR.Uw (vS m e q-8) (vS m e q+8) (vC m e q-8) (vC m e q+8) q).1:Rat)+2<=R.pz q*(S/C)/\R.pz q*(S/C)+2<=((gR.Uw (vS m e q-8) (vS m e q+8) (vC m e q-8) (vC m e q+8) q).2:Rat) /\
    ((gR.Uw (vS m e q-8) (vS m e q+8) (vC m e q-8) (vC m e q+8) q).2:Rat)-((gR.Uw (vS m e q-8) (vS m e q+8) (vC m e q-8) (vC m e q+8) q).1:Rat)<=5*R.pz (-p-11)*(R.pz q*R.ab (S/C))+2:=by
   have bHE:=t2;have x1:((vC m e q-8:Int):Rat)=(vC m e q:Rat)-8:=by rw[cLB,eight]
   rw[R.dJ]at bHE;unfold gR.Uw
   by_cases c0:0<C
   ·have bEL:=fC;rw[R.bW (cCJ c0)]at bEL;have:(0:Rat)<((vC m e q-8:Int):Rat):=by rw[x1];grind
    have:0<vC m e q-8:=by exact_mod_cast this
    rw[fH.2 (show 0<=vC m e q-8 by omega),cond_false];have w2:=wd _ fC.1;rw[R.bW (cCJ c0)]at w2;exact aJO (by omega) t1 t2 S0 c0 bEL.2 hV (cCJ r0) r1 (wd _ fS.1) w2
   ·have bEL:=fC;have eC:R.ab C=-C:=by unfold R.ab;rw[if_neg (by grind)]
    rw[eC]at bEL;have:((vC m e q-8:Int):Rat)<0:=by rw[x1];grind
    have:vC m e q-8<0:=by exact_mod_cast this
    rw[jL.2 this,cond_true];have w2:=wd _ fC.1;rw[eC]at w2;have ng:∀(v:Int) (V:Rat),R.ab ((v:Rat)-R.pz q*V)<=6->R.ab (((-v:Int):Rat)-R.pz q*-V)<=6:=fun v V h=>by
     rw[cIX,<-R.iB,show -(-(v:Rat)-R.pz q*-V)=(v:Rat)-R.pz q*V by grind];exact h
    have w1:=wd _ fS.1;rw[<-R.iB S]at w1;have:=aJO (s:=-vS m e q) (c:=-vC m e q) (S:=-S) (C:=-C) (V:=S/C) (q:=q) (by omega) (ng _ _ t1) (ng _ _ t2) (by grind) (by grind) bEL.2 (by grind) (cCJ r0) r1 w1 w2;rw[show -(vS m e q+8)=-vS m e q-8 by omega,show -(vS m e q-8)=-vS m e q+8 by omega,show -(vC m e q+8)=-vC m e q-8 by omega,show -(vC m e q-8)=-vC m e q+8 by omega];exact this
  obtain⟨a1,a2,a3⟩:=main;rw[<-eE]at a1 a2 a3;have aV:R.ab (S/C)*R.ab C=R.ab S:=by rw[<-R.eA,hV]
  have V0:0<=R.ab (S/C):=R.bB _;have fV:R.pz (p+15)<=R.pz q*R.ab (S/C):=by
   have h1:=R.aM V0 (show 0<=1-R.ab C by grind);have:=R.aM (cCJ Qp) (show 0<=R.ab (S/C)-R.ab S by grind);grind
  have VN:S/C≠0:=Mp _ fV;have wide:(((Ia 3 m e q).2:Rat)-((Ia 3 m e q).1:Rat))*R.pz p<=R.pz q*R.ab (S/C)/128:=by
   have h1:=R.aM (cCJ pp) (show 0<=5*R.pz (-p-11)*(R.pz q*R.ab (S/C))+2-(((Ia 3 m e q).2:Rat)-((Ia 3 m e q).1:Rat)) by grind);have h2:R.pz p*R.pz (-p-11)=1/2048:=by
    have:R.pz p*R.pz (-p-11)*2048=1:=by
     rw[<-R.iG,show p+(-p-11)=-((11:Nat):Int) by omega,R.vJ];have:=R.Nc 11;rw[show((2^11:Nat):Rat)=2048 by norm_cast]at this;exact this
    grind
   have h3:R.pz p*(5*R.pz (-p-11)*(R.pz q*R.ab (S/C))+2)=5*(R.pz p*R.pz (-p-11))*(R.pz q*R.ab (S/C))+2*R.pz p:=by grind
   rw[h2]at h3;grind
  have ord:(Ia 3 m e q).1<=(Ia 3 m e q).2:=by
   have:((Ia 3 m e q).1:Rat)<=((Ia 3 m e q).2:Rat):=by grind
   exact_mod_cast this
  refine⟨y0,yb,nr,size _ _ t1 fS.2,size _ _ t2 fC.2,cl,ch,bAI,aBY (by omega) ord ?_,by rw[eV];grind,by rw[eV];grind,by rw[eV];exact VN,by rw[eV];grind⟩;have pp1:=R.aM (show 0<=((Ia 3 m e q).2:Rat)-((Ia 3 m e q).1:Rat) by grind) (show 0<=R.pz p-1 by grind)
  by_cases c:0<S/C
  ·left;rw[R.bW (cCJ c)]at wide fV;constructor <;> grind
  ·right;have eN:R.ab (S/C)=-(S/C):=by unfold R.ab;rw[if_neg (by grind)]
   rw[eN]at wide fV;constructor <;> grind
end M
namespace W
open Go AI M
namespace bLW
def E:=mE [] 12 [] [] []
def aF:=bd f179
theorem aU:Nk E aF:=nk
theorem start a:aG E f179 aF [D.s (sc (int i64 a))]=letI B:=int i64 0;letI A:=int u64 0;aD (a==32) (some [D.agg [sc (int u64 2147483648),sc (int i64 24),sc (int i64 (-149:Int)),sc (int i64 104),sc (int u64 2139095040),sc (int u64 2143289345)],D.s (sc (bool true))]) (aD (a==64) (some [D.agg [sc (int u64 9223372036854775808),sc (int i64 53),sc (int i64 (-1074:Int)),sc (int i64 971),sc (int u64 9218868437227405312),sc (int u64 9221120237041090561)],D.s (sc (bool true))]) (some [D.agg [sc A,sc B,sc B,sc B,sc A,sc A],D.s (sc (bool false))])):=eJ aU
def fS(f:Int):Int:=if f=32 then 2147483648 else if f=64 then 9223372036854775808 else 0
def fP(f:Int):Int:=if f=32 then 24 else if f=64 then 53 else 0
def fE(f:Int):Int:=if f=32 then -149 else if f=64 then -1074 else 0
def fG(f:Int):Int:=if f=32 then 104 else if f=64 then 971 else 0
def fI(f:Int):Int:=if f=32 then 2139095040 else if f=64 then 9218868437227405312 else 0
def fQ(f:Int):Int:=if f=32 then 2143289345 else if f=64 then 9221120237041090561 else 0
def sp(f:Int):Prop×List D:=(True,[.agg [.sc (.int .u64 (fS f)),.sc (.int .i64 (fP f)),.sc (.int .i64 (fE f)),.sc (.int .i64 (fG f)),.sc (.int .u64 (fI f)),.sc (.int .u64 (fQ f))],.s (.sc (.bool (f==32||f==64)))])
theorem spec:iD E f179 aF (pN .i64) sp:=by
 intro f _;refine(start f).trans ?_
 by_cases h1:f=32
 ·subst h1;rfl
 ·by_cases h2:f=64
  ·subst h2;rfl
  ·rw[cO h1,cO h2];simp[sp,fS,fP,fE,fG,fI,fQ,h1,h2]
def aJ:dG:=orc1 (pN .i64) sp
theorem ok:OK 179 aJ:=(dZ E aF aE func179).oS rfl spec
end bLW
namespace bAF
def E:=mE [] 14 [] [] []
def aF:=bd f180
theorem aU:Nk E aF:=nk
theorem start a c d e f g b:aG E f180 aF [D.agg [sc (int u64 a),sc (int i64 c),sc (int i64 d),sc (int i64 e),sc (int u64 f),sc (int u64 g)],D.s (sc (int u64 b))]=if a=0 then none else some [D.s (sc (bool (decide (a<=b)))),D.s (sc (int u64 (b.tmod a)))]:=eJ aU
def sp(k:K6)(b:Int):Prop×List D:=(bFK k/\0<=b,[.s (.sc (.bool (decide (k.1<=b)))),.s (.sc (.int .u64 (b%k.1)))])
theorem spec:eR E f180 aF (pG (.pair (sN .u64) (.pair (sN .i64) (.pair (sN .i64) (.pair (sN .i64) (.pair (sN .u64) (sN .u64))))))) (pN .u64) sp:=by
 intro k b h;refine(start k.1 k.2.1 k.2.2.1 k.2.2.2.1 k.2.2.2.2.1 k.2.2.2.2.2 b).trans ?_;obtain⟨hk,hb⟩:=h;rw[if_neg (by rcases hk with rfl |rfl <;> simp[kf]),cEG hb];rfl
def aJ:dG:=orc2 (pG (.pair (sN .u64) (.pair (sN .i64) (.pair (sN .i64) (.pair (sN .i64) (.pair (sN .u64) (sN .u64))))))) (pN .u64) sp
theorem ok:OK 180 aJ:=(dZ E aF aE func180).jR rfl spec
end bAF
namespace aBD
def E:=mE [] 33 [] [] []
def aF:=bd f181
theorem aU:Nk E aF:=nk
theorem start a c d e f g b:aG E f181 aF [D.agg [sc (int u64 a),sc (int i64 c),sc (int i64 d),sc (int i64 e),sc (int u64 f),sc (int u64 g)],D.s (sc (int u64 b))]=letI A:=(↑((2:Nat)^min (i64.wrap (c-1)).toNat 64):Int);letI B:=u64.wrap ((1:Int)*A);if i64.wrap (c-1)<0 then none else if u64.wrap ((1:Int)*A)=0 then none else if u64.wrap ((1:Int)*A)=0 then none else aD (u64.wrap (b.tdiv B)==0) (some [D.s (sc (int u64 (b.tmod B))),D.s (sc (int i64 d))]) (some [D.s (sc (int u64 (u64.wrap (u64.wrap ((1:Int)*A)+b.tmod B)))),D.s (sc (int i64 (i64.wrap (i64.wrap (d+i64.wrap (u64.wrap (b.tdiv B)))-1))))]):=eJ aU
def sp(k:K6)(b:Int):Prop×List D:=(bFK k/\0<=b/\b<9223372036854775808,[.s (.sc (.int .u64 (Iz k b.toNat:Nat))),.s (.sc (.int .i64 (kE k+(Vv k b.toNat:Nat))))])
theorem bHX:kH (kf true)=4503599627370496:=by kernel_rfl
theorem bHY:kH (kf false)=8388608:=by kernel_rfl
theorem bQD:u64.wrap (1*((2^min (i64.wrap ((kf true).2.1-1)).toNat 64:Nat):Int))=4503599627370496:=by kernel_rfl
theorem bQE:u64.wrap (1*((2^min (i64.wrap ((kf false).2.1-1)).toNat 64:Nat):Int))=8388608:=by kernel_rfl
theorem bRD:¬i64.wrap ((kf true).2.1-1)<0:=by rw[wrap_i64 (by simp[kf]) (by simp[kf])];simp[kf]
theorem bRE:¬i64.wrap ((kf false).2.1-1)<0:=by rw[wrap_i64 (by simp[kf]) (by simp[kf])];simp[kf]
theorem gen{k:K6}{h:Nat}(hh:kH k=h)(h1:1<h)(h2:h<9007199254740992)(hE:-1074<=kE k/\kE k<=0)(b:Int)(hb:0<=b)(xJ:b<9223372036854775808)(hn:¬i64.wrap (k.2.1-1)<0)(hw:u64.wrap (1*((2^min (i64.wrap (k.2.1-1)).toNat 64:Nat):Int))=(h:Int)) :
  aG E f181 aF [(pG (.pair (sN .u64) (.pair (sN .i64) (.pair (sN .i64) (.pair (sN .i64) (.pair (sN .u64) (sN .u64))))))).put k,(pN .u64).put b]=some (sp k b).2:=by
 refine(start k.1 k.2.1 k.2.2.1 k.2.2.2.1 k.2.2.2.2.1 k.2.2.2.2.2 b).trans ?_;obtain⟨n,rfl⟩:=cCM hb;have hq:n/h<=n:=cDK _ _;have hm:n%h<h:=bZR _ (by omega);have aXA:n/h<4611686018427387904:=by
  apply cDC;have:2*4611686018427387904<=h*4611686018427387904:=cBK _ (by omega);omega
 have e1:((n:Int)).tdiv (h:Int)=((n/h:Nat):Int):=by rw[cEF hb,cDA]
 have e2:((n:Int)).tmod (h:Int)=((n%h:Nat):Int):=by rw[cEG hb,cED]
 have bGS:k.2.2.1=kE k:=rfl;rw[if_neg hn,hw,bG,bG,e1,e2,bGS];clear e1 e2 hw hn;unfold sp Iz Vv;simp only[hh,cBF];have aWN:n/h=0->n%h=n:=fun hz=>cIZ ((Nat.div_eq_zero_iff_lt (by omega)).1 hz)
 generalize n/h=q at *;generalize n%h=r at *;rw[wrap_u64 (n:=(q:Int))]
 by_cases hz:q=0
 ·rw[cL,if_pos hz,hz,aWN hz];simp
 ·rw[cO,if_neg hz,wrap_u64 (n:=(h:Int)+(r:Int)),wrap_i64 (n:=(q:Int)),wrap_i64 (n:=kE k+(q:Int)),wrap_i64];rw[show kE k+(q:Int)-1=kE k+((q-1:Nat):Int)from by omega,Int.natCast_add]
theorem spec:eR E f181 aF (pG (.pair (sN .u64) (.pair (sN .i64) (.pair (sN .i64) (.pair (sN .i64) (.pair (sN .u64) (sN .u64))))))) (pN .u64) sp:=by
 rintro k b ⟨hk,hb,xJ⟩;rcases hk with rfl |rfl
 ·exact gen bHX (by omega) (by omega) (by simp[kE,kf]) b hb xJ bRD bQD
 ·exact gen bHY (by omega) (by omega) (by simp[kE,kf]) b hb xJ bRE bQE
def aJ:dG:=orc2 (pG (.pair (sN .u64) (.pair (sN .i64) (.pair (sN .i64) (.pair (sN .i64) (.pair (sN .u64) (sN .u64))))))) (pN .u64) sp
theorem ok:OK 181 aJ:=(dZ E aF aE func181).jR rfl spec
end aBD
namespace dK
def E:=mE [(179,bLW.aJ),(180,bAF.aJ),(181,aBD.aJ),(82,vV.aJ),(80,Mk.aJ)] 31 [23] [] []
def aF:=bd f141
theorem aU:Nk E aF:=nk
theorem start a:aG E f141 aF [D.s (sc (int u64 a))]=aO True (aO (bFK ((9223372036854775808:Int),(53:Int),(-1074:Int),(971:Int),(9218868437227405312:Int),(9221120237041090561:Int))/\0<=a) (aC (decide (9223372036854775808<=a)) fun b=>aC (a%9223372036854775808) fun c=>aO (bFK ((9223372036854775808:Int),(53:Int),(-1074:Int),(971:Int),(9218868437227405312:Int),(9221120237041090561:Int))/\0<=c/\c<9223372036854775808) (aC (↑(Iz ((9223372036854775808:Int),(53:Int),(-1074:Int),(971:Int),(9218868437227405312:Int),(9221120237041090561:Int)) c.toNat):Int) fun d=>letI A:=dg d.toNat;aC (kE ((9223372036854775808:Int),(53:Int),(-1074:Int),(971:Int),(9218868437227405312:Int),(9221120237041090561:Int))+(↑(Vv ((9223372036854775808:Int),(53:Int),(-1074:Int),(971:Int),(9218868437227405312:Int),(9221120237041090561:Int)) c.toNat):Int)) fun e=>aO (0<=d/\d<18446744073709551616) (aO (bN A/\A.length<=4398046511104) (aC (isNeg (zs b (val A))) fun f=>aC (dg (zs b (val A)).natAbs) fun g=>some [D.agg [sc (bool f),ints u32 g],D.s (sc (int i64 e))]))))):=eJ aU
def Ja(a:Int):Int:=zs (decide (9223372036854775808<=a)) (Iz (kf true) (a%9223372036854775808).toNat)
def Ko(a:Int):Int:=-1074+(Vv (kf true) (a%9223372036854775808).toNat:Nat)
def sp(a:Int):Prop×List D:=(0<=a/\a<18446744073709551616/\a%9223372036854775808<9218868437227405312,[zD (Ja a),.s (.sc (.int .i64 (Ko a)))])
theorem spec:iD E f141 aF (pN .u64) sp:=by
 rintro a ⟨h0,h1,h2⟩;refine(start a).trans ?_;have hk:bFK (9223372036854775808,53,-1074,971,9218868437227405312,9221120237041090561):=Or.inl rfl;have ek:(9223372036854775808,53,-1074,971,9218868437227405312,9221120237041090561)=kf true:=rfl;have hm:Iz (kf true) (a%9223372036854775808).toNat<18446744073709551616:=by
  unfold Iz;have:kH (kf true)=4503599627370496:=rfl;rw[this];split <;> omega
 have l:(dg (Iz (kf true) (a%9223372036854775808).toNat)).length<=2:=cU (by simpa using hm);have zf:∀b n,zs b (val (dg n))=zs b n:=fun b n=>by rw[bD]
 rw[gP trivial,gP ⟨hk,h0⟩];simp only[aB,ek,cBF,zf];rw[gP ⟨Or.inl rfl,by omega,by omega⟩,gP ⟨by omega,by omega⟩,gP ⟨bZ _,by omega⟩];rfl
def aJ:dG:=orc1 (pN .u64) sp
theorem ok:OK 141 aJ:=(dZ E aF (aA bLW.ok (aA bAF.ok (aA aBD.ok (aA vV.ok (aA Mk.ok aE))))) func141).oS rfl spec
end dK
namespace Small
def E:=mE [(82,vV.aJ)] 9 [5,8] [] []
def aF:=bd f231
theorem aU:Nk E aF:=nk
theorem start a:aG E f231 aF [D.s (sc (int i64 a))]=aD (decide (a<0)) (aO ((0:Int)<=(0:Int)/\(0:Int)<(18446744073709551616:Int)) (some [D.own 112 u32 (dg 0)])) (aO (0<=u64.wrap a/\u64.wrap a<18446744073709551616) (some [D.own 112 u32 (dg (u64.wrap a).toNat)])):=eJ aU
def sp(a:Int):Prop×List D:=(-9223372036854775808<=a/\a<9223372036854775808,[.own kW .u32 (dg a.toNat)])
theorem spec:iD E f231 aF (pN .i64) sp:=by
 rintro a ⟨h1,h2⟩;refine(start a).trans ?_;show _=some [D.own kW .u32 (dg a.toNat)]
 by_cases hn:a<0
 ·rw[aR hn,gP ⟨by omega,by omega⟩,show a.toNat=0 from by omega]
 ·rw[aN hn,wrap_u64,gP ⟨by omega,by omega⟩]
def aJ:dG:=orc1 (pN .i64) sp
theorem ok:OK 231 aJ:=(dZ E aF (aA vV.ok aE) func231).oS rfl spec
end Small
namespace Gu
def E:=mE [(230,Arctan.aJ),(201,Sub.aJ),(81,Add.aJ),(164,sA.aJ),(231,Small.aJ),(232,aZI.aJ),(200,aOJ.aJ)] 75 [64] [(4,[0,3])] []
def aF:=bd f211
theorem aU:Nk E aF:=nk
def L4 a b:=nN E f211 aF 4 [bK a,bK b]
theorem start a:aG E f211 aF [D.s (sc (int i64 a))]=Gu.L4 (if(0:Int)>a then(0:Int)else a) 64:=eJ aU
theorem kV a b:L4 a b=letI W:=i64.wrap (a+b);letI I:=Arctan.atan (cLC 57) W.toNat;letI P:=dg (val (dg I.fst)*32+(0:Nat));letI H:=Arctan.atan (cLC 18) W.toNat;letI O:=dg (val (dg H.fst)*48+(0:Nat));letI G:=Arctan.atan (cLC 239) W.toNat;letI Q:=dg (val (dg G.fst)*20+(0:Nat));letI F:=dg (val O+val P);letI B:=dg (val F-val Q);letI A:=i64.wrap (i64.wrap ((48:Int)*i64.wrap ((H.snd:Int)+(2:Int)))+i64.wrap ((32:Int)*i64.wrap ((I.snd:Int)+(2:Int))))+i64.wrap ((20:Int)*i64.wrap ((G.snd:Int)+(2:Int)));letI C:=dg (i64.wrap ((4:Int)*i64.wrap A)).toNat;letI U:=dg (val B-val C);letI T:=dg (val B+val C);letI N:=dg (val T/(2:Nat)^b.toNat);letI K:=dg (val U/(2:Nat)^b.toNat);aO (((2:Int)<=(18:Int)/\(18:Int)<(4294967296:Int))/\0<=i64.wrap (a+b)/\i64.wrap (a+b)<=500000) (aO (((2:Int)<=(57:Int)/\(57:Int)<(4294967296:Int))/\0<=i64.wrap (a+b)/\i64.wrap (a+b)<=500000) (aO (((2:Int)<=(239:Int)/\(239:Int)<(4294967296:Int))/\0<=i64.wrap (a+b)/\i64.wrap (a+b)<=500000) (aO (bN (dg H.fst)/\(dg H.fst).length<=1099511627776/\((0:Int)<=(48:Int)/\(48:Int)<(4294967296:Int))/\(0:Int)<=(0:Int)/\(0:Int)<(4294967296:Int)) (aO (bN (dg I.fst)/\(dg I.fst).length<=1099511627776/\((0:Int)<=(32:Int)/\(32:Int)<(4294967296:Int))/\(0:Int)<=(0:Int)/\(0:Int)<(4294967296:Int)) (aO (bN O/\bN P/\O.length<=1099511627776/\P.length<=1099511627776) (aO (bN (dg G.fst)/\(dg G.fst).length<=1099511627776/\((0:Int)<=(20:Int)/\(20:Int)<(4294967296:Int))/\(0:Int)<=(0:Int)/\(0:Int)<(4294967296:Int)) (aO (cI F/\cI Q/\F.length<=4398046511104/\Q.length<=4398046511104) (aO ((-9223372036854775808:Int)<=i64.wrap ((4:Int)*i64.wrap A)/\i64.wrap ((4:Int)*i64.wrap A)<9223372036854775808) (aO (cI B/\cI C/\B.length<=4398046511104/\C.length<=4398046511104) (aO (bN U/\U.length<=1099511627776/\b<9223372036854775808) (aO (bN B/\bN C/\B.length<=1099511627776/\C.length<=1099511627776) (aO (bN T/\T.length<=1099511627776/\b<9223372036854775808) (aO (cI K/\cI N/\K.length<=4398046511104/\N.length<=4398046511104) (aD (iS (val K) (val N)==0) (some [D.own 112 u32 K]) (Gu.L4 a (i64.wrap (b*2))))))))))))))))):=lJ aU
def Md(q g:Nat):Nat×Nat :=
 let a:=Arctan.atan 18 (q+g)
 let b:=Arctan.atan 57 (q+g)
 let c:=Arctan.atan 239 (q+g)
 let sum:=a.1*48+b.1*32-c.1*20
 let off:=4*(48*(a.2+2)+32*(b.2+2)+20*(c.2+2))
 ((sum-off)/2^g,(sum+off)/2^g)
theorem L{q:Nat}(hq:q<=400000)(h:(Md q 64).1=(Md q 64).2):L4 q 64=some [D.own kW .u32 (dg (Md q 64).1)]:=by
 have b1:=Arctan.wW 18 (q+64);have b2:=Arctan.wW 57 (q+64);have b3:=Arctan.wW 239 (q+64);rw[kV];have ew:i64.wrap ((q:Int)+64)=((q+64:Nat):Int):=by rw[wrap_i64];omega
 have k1:cLC 18=18:=rfl;have k2:cLC 57=57:=rfl;have k3:cLC 239=239:=rfl;have k8:cLC 64=64:=rfl;simp only[ew,cBF,k1,k2,k3,k8,bD,bYI];unfold Md at h ⊢;simp only at h ⊢;generalize Arctan.atan 18 (q+64)=A at *;generalize Arctan.atan 57 (q+64)=B at *;generalize Arctan.atan 239 (q+64)=C at *;obtain⟨a,i⟩:=A;obtain⟨b,j⟩:=B;obtain⟨c,k⟩:=C;simp only at *;have eo:i64.wrap (4*i64.wrap (i64.wrap (i64.wrap (48*i64.wrap ((i:Int)+2))+i64.wrap (32*i64.wrap ((j:Int)+2)))+i64.wrap (20*i64.wrap ((k:Int)+2))))=((4*(48*(i+2)+32*(j+2)+20*(k+2)):Nat):Int):=by
  rw[wrap_i64 (n:=(i:Int)+2),wrap_i64 (n:=(j:Int)+2),wrap_i64 (n:=(k:Int)+2),wrap_i64 (n:=48*((i:Int)+2)),wrap_i64 (n:=32*((j:Int)+2)),wrap_i64 (n:=20*((k:Int)+2)),wrap_i64 (n:=48*((i:Int)+2)+32*((j:Int)+2)),wrap_i64 (n:=48*((i:Int)+2)+32*((j:Int)+2)+20*((k:Int)+2)),wrap_i64];omega
 simp only[eo,cBF];have bDB:4*(48*(i+2)+32*(j+2)+20*(k+2))<2^40:=by omega
 generalize 4*(48*(i+2)+32*(j+2)+20*(k+2))=off at *;have bd:∀n:Nat,n<2^(2*(q+64)+4+10)->(dg n).length<=1000000:=fun n hn=>by have:=mL hn;omega
 have hp:2^(2*(q+64)+4+10)=1024*2^(2*(q+64)+4):=by rw[cCH];omega
 have Mx:2^40<=2^(2*(q+64)+4):=fM;have q1:=bd a (by omega);have q2:=bd b (by omega);have q3:=bd c (by omega);have q4:=bd (a*48) (by omega);have q5:=bd (b*32) (by omega);have q6:=bd (c*20) (by omega);have q7:=bd (a*48+b*32) (by omega);have q8:=bd (a*48+b*32-c*20) (by omega);have q9:=bd off (by omega);have bFO:=bd (a*48+b*32-c*20-off) (by omega);have bQS:=bd (a*48+b*32-c*20+off) (by omega);have q12:=bd ((a*48+b*32-c*20-off)/2^64) (cEC (cDK _ _) (by omega));have q13:=bd ((a*48+b*32-c*20+off)/2^64) (cEC (cDK _ _) (by omega));have ce:iS ((a*48+b*32-c*20-off)/2^64) ((a*48+b*32-c*20+off)/2^64)=0:=by rw[h];unfold iS;simp
 rw[gP (by
  repeat' apply And.intro
  all_goals first |exact bA _ |exact bZ _ |omega),gP (by
  repeat' apply And.intro
  all_goals first |exact bA _ |exact bZ _ |omega),gP (by
  repeat' apply And.intro
  all_goals first |exact bA _ |exact bZ _ |omega),gP (by
  repeat' apply And.intro
  all_goals first |exact bA _ |exact bZ _ |omega),gP (by
  repeat' apply And.intro
  all_goals first |exact bA _ |exact bZ _ |omega),gP (by
  repeat' apply And.intro
  all_goals first |exact bA _ |exact bZ _ |omega),gP (by
  repeat' apply And.intro
  all_goals first |exact bA _ |exact bZ _ |omega),gP (by
  repeat' apply And.intro
  all_goals first |exact bA _ |exact bZ _ |omega),gP (by
  repeat' apply And.intro
  all_goals first |exact bA _ |exact bZ _ |omega),gP (by
  repeat' apply And.intro
  all_goals first |exact bA _ |exact bZ _ |omega),gP (by
  repeat' apply And.intro
  all_goals first |exact bA _ |exact bZ _ |omega),gP (by
  repeat' apply And.intro
  all_goals first |exact bA _ |exact bZ _ |omega),gP (by
  repeat' apply And.intro
  all_goals first |exact bA _ |exact bZ _ |omega),gP (by
  repeat' apply And.intro
  all_goals first |exact bA _ |exact bZ _ |omega),cL ce]
open R in
theorem num {q:Nat} (hq:q<=135800):(Md q 64).1=R.pF q/\(Md q 64).2=R.pF q:=by
 obtain⟨j1,e1⟩:=R.Br (k:=18) (by decide) (w:=q+64) (by omega);obtain⟨j2,e2⟩:=R.Br (k:=57) (by decide) (w:=q+64) (by omega);obtain⟨j3,e3⟩:=R.Br (k:=239) (by decide) (w:=q+64) (by omega);have hg:=R.Hp.bEJ;have hp:=R.mR.1;have hw:=R.aCX;unfold Md;dsimp only;generalize Arctan.atan 18 (q+64)=A at *;generalize Arctan.atan 57 (q+64)=B at *;generalize Arctan.atan 239 (q+64)=C at *;obtain⟨a,i⟩:=A;obtain⟨b,j⟩:=B;obtain⟨c,k⟩:=C;dsimp only at *;have bOH:R.ab (((2^(q+64):Nat):Rat)*(R.pi-R.aTP))<=1:=by
  have e:R.pw=(q+64)+(R.pw-(q+64)):=by omega
  have P:(0:Rat)<((2^(R.pw-(q+64)):Nat):Rat):=by exact_mod_cast cAH (by decide)
  have L:(33554432:Rat)<=((2^(R.pw-(q+64)):Nat):Rat):=by
   have:2^25<=2^(R.pw-(q+64)):=cAI (by decide) (by omega);have bRH:(2:Nat)^25=33554432:=rfl;rw[bRH]at this;exact_mod_cast this
  rw[e,cCH,Rat.natCast_mul]at hg;refine R.bP P ?_;have e3:((2^(R.pw-(q+64)):Nat):Rat)*R.ab (((2^(q+64):Nat):Rat)*(R.pi-R.aTP))=R.ab (((2^(q+64):Nat):Rat)*((2^(R.pw-(q+64)):Nat):Rat)*(R.pi-R.aTP)):=by
   rw[R.eA,R.eA (((2^(q+64):Nat):Rat)*_),R.eA ((2^(q+64):Nat):Rat) ((2^(R.pw-(q+64)):Nat):Rat),R.bW (cCJ P)];grind
  rw[e3];grind
 have hW:(18446744073709551616:Rat)<=((2^(q+64):Nat):Rat):=by
  have:2^64<=2^(q+64):=cAI (by decide) (by omega);have bRF:(2:Nat)^64=18446744073709551616:=rfl;rw[bRF]at this;exact_mod_cast this
 have hm:=R.aM (show 0<=((2^(q+64):Nat):Rat) by grind) (show 0<=R.pi-3 by grind);have J1:(i:Rat)<=200000:=by exact_mod_cast bYC j1 (by omega)
 have J2:(j:Rat)<=200000:=by exact_mod_cast bYC j2 (by omega)
 have J3:(k:Rat)<=200000:=by exact_mod_cast bYC j3 (by omega)
 have N1:(0:Rat)<=(i:Rat):=by exact_mod_cast cCR _
 have N2:(0:Rat)<=(j:Rat):=by exact_mod_cast cCR _
 have N3:(0:Rat)<=(k:Rat):=by exact_mod_cast cCR _
 have aXB:((2^(q+64):Nat):Rat)*(R.pi-R.aTP)=((2^(q+64):Nat):Rat)*R.pi-(48*(((2^(q+64):Nat):Rat)*R.Oa 18)+32*(((2^(q+64):Nat):Rat)*R.Oa 57)-20*(((2^(q+64):Nat):Rat)*R.Oa 239)):=by
  unfold R.aTP;grind
 rw[aXB]at bOH;rw[R.dJ]at e1 e2 e3 bOH;generalize ((2^(q+64):Nat):Rat)*R.Oa 18=x at *;generalize ((2^(q+64):Nat):Rat)*R.Oa 57=y at *;generalize ((2^(q+64):Nat):Rat)*R.Oa 239=z at *;have hle:c*20<=a*48+b*32:=by
  have:(c:Rat)*20<=(a:Rat)*48+(b:Rat)*32:=by grind
  exact_mod_cast this
 have hX:((a*48+b*32-c*20:Nat):Rat)+(c:Rat)*20=(a:Rat)*48+(b:Rat)*32:=by exact_mod_cast(show a*48+b*32-c*20+c*20=a*48+b*32 by omega)
 have hO:((4*(48*(i+2)+32*(j+2)+20*(k+2)):Nat):Rat)=4*(48*((i:Rat)+2)+32*((j:Rat)+2)+20*((k:Rat)+2)):=by push_cast;rfl
 have aRI:R.ab (((a*48+b*32-c*20:Nat):Rat)-((2^(q+64):Nat):Rat)*R.pi)<=((4*(48*(i+2)+32*(j+2)+20*(k+2)):Nat):Rat):=by
  rw[hO,R.dJ];constructor <;> grind
 have:=R.aTQ (q:=q) (g:=64) (by omega) (by decide) (by have:(2:Nat)^(64-24)=1099511627776:=rfl;omega) aRI;exact⟨this.2.1,this.2.2⟩
def sp(q:Int):Prop×List D:=(0<=q/\q<=135800,[.own kW .u32 (dg (R.pF q.toNat))])
theorem spec:iD E f211 aF (pN .i64) sp:=by
 rintro q ⟨h1,h2⟩;obtain⟨q,rfl⟩:=cCM h1;obtain⟨n1,n2⟩:=num (q:=q) (by omega);refine(start q).trans ?_;rw[bG];have:=L (q:=q) (by omega) (n1.trans n2.symm);rw[n1]at this;exact this
def aJ:dG:=orc1 (pN .i64) sp
theorem ok:OK 211 aJ:=(dZ E aF (aA Arctan.ok (aA Sub.ok (aA Add.ok (aA sA.ok (aA Small.ok (aA aZI.ok (aA aOJ.ok aE))))))) func211).oS rfl spec
end Gu
namespace Of
def E:=mE [(166,Is.aJ),(233,pT.aJ)] 14 [] [] []
def aF:=bd f212
theorem aU:Nk E aF:=nk
theorem start a b c d:aG E f212 aF [D.agg [sc (bool a),ints u32 b],D.agg [sc (bool c),ints u32 d]]=letI B:=pT.Pm (zv (a,b)) (zv (c,d));aD c (aO (dP (a,b)) (aC (isNeg (-zv (a,b))) fun e=>aC (dg (-zv (a,b)).natAbs) fun f=>aO (dP (c,d)) (aC (isNeg (-zv (c,d))) fun g=>aC (dg (-zv (c,d)).natAbs) fun h=>letI A:=pT.Pm (zv (e,f)) (zv (g,h));aO (dP (e,f)/\dP (g,h)/\g=false/\0<h.length/\f.length<=274877906942/\h.length<=274877906942) (aC (isNeg A) fun i=>aC (dg A.natAbs) fun j=>some [D.agg [sc (bool i),ints u32 j]])))) (aO (dP (a,b)/\dP (c,d)/\c=false/\0<d.length/\b.length<=274877906942/\d.length<=274877906942) (aC (isNeg B) fun k=>aC (dg B.natAbs) fun l=>some [D.agg [sc (bool k),ints u32 l]])):=eJ aU
def sp(x y:Bool×List Int):Prop×List D:=(dP x/\dP y/\y.1=false/\0<y.2.length/\x.2.length<=274877906942/\y.2.length<=274877906942,[zD (pT.Pm (zv x) (zv y))])
theorem spec:eR E f212 aF nM nM sp:=by
 intro x y h;refine(start x.1 x.2 y.1 y.2).trans ?_;have hs:y.1=false:=h.2.2.1;rw[Ii hs];exact gP h
def aJ:dG:=orc2 nM nM sp
theorem ok:OK 212 aJ:=(dZ E aF (aA Is.ok (aA pT.ok aE)) func212).jR rfl spec
end Of
namespace Rk
def E:=mE [(37,Ff.aJ),(209,mY.aJ),(77,Oh.aJ),(76,Bu.aJ),(123,aAW.aJ),(80,Mk.aJ),(164,sA.aJ),(210,aBC.aJ),(211,Gu.aJ),(212,Of.aJ),(213,nI.aJ),(122,Bt.aJ),(214,aNH.aJ)] 64 [] [(6,[6,7,8,9,10])] [6]
def aF:=bd f182
theorem aU:Nk E aF:=nk
def J6 a b c d e f:=lE E f182 aF 6 [bM 0 74 [bC a,sc (slice none 0 0)],bM 1 74 [bC b,sc (slice none 0 0)],bK c,bK d,bM 4 74 [bC e,gU f]]
theorem start a d b c:aG E f182 aF [D.agg [sc (bool a),ints u32 d],D.s (sc (int i64 b)),D.s (sc (int i64 c))]=letI H:=mY.Zc (zv (a,d)) (i64.wrap (b+c));letI C:=(↑(bl (val d)):Int);letI A:=c+i64.wrap ((if i64.wrap (C+b)>(0:Int)then i64.wrap (C+b)else(0:Int))+4);letI I:=b+i64.wrap A;letI G:=mY.Zc (zv (a,d)) (i64.wrap I);aO (cI d/\d.length<=4398046511104) (aO (dP (a,d)/\(-1099511627776:Int)<=i64.wrap I/\i64.wrap I<=1099511627776) (aC (isNeg G) fun e=>aC (dg G.natAbs) fun f=>letI K:=(↑(zv (e,f)).natAbs:Int);letI B:=Rk.J6 false false (i64.wrap ((if i64.wrap (C+b)>(0:Int)then i64.wrap (C+b)else(0:Int))+4)) (i64.wrap A) e f;aD (i64.wrap ((if i64.wrap (C+b)>(0:Int)then i64.wrap (C+b)else(0:Int))+4)==4) (aO (dP (e,f)) (aC (isNeg K) fun g=>aC (dg K.natAbs) fun h=>aO (dP (g,h)/\(2:Int)<=(1099511627776:Int)) (aC (isNeg (zv (g,h)*4)) fun i=>aC (dg (zv (g,h)*4).natAbs) fun j=>aO (i64.wrap A<=1099511627776) (aC (dg ((2:Nat)^(i64.wrap A).toNat)) fun k=>aO (bN k/\k.length<=1099511627776/\((0:Int)<=(3:Int)/\(3:Int)<(4294967296:Int))/\(0:Int)<=(0:Int)/\(0:Int)<(4294967296:Int)) (aC (dg (val k*3+(0:Nat))) fun l=>letI F:=zs false (val l);letI N:=(isNeg F,dg F.natAbs);aO (bN l/\l.length<=4398046511104) (aO (dP (i,j)/\dP N/\j.length<549755813888/\(dg F.natAbs).length<549755813888) (aC (cT (zv (i,j)) (zv N)) fun m=>aD (decide (m<=0)) (aO (dP (a,d)/\(-1099511627776:Int)<=i64.wrap (b+c)/\i64.wrap (b+c)<=1099511627776) (aC (isNeg H) fun n=>aC (dg H.natAbs) fun o=>some [D.agg [sc (bool false),sc (slice none 0 0)],D.agg [sc (bool n),ints u32 o]])) B))))))) B)):=eJ aU
theorem uI a b c d e f:J6 a b c d e f=letI G:=zv (e,f)*2;letI C:=dP (e,f)/\(1:Int)<=(1099511627776:Int);letI A:=dg (R.pF d.toNat);aO (0<=d/\d<=135800) (aO (bN A/\A.length<=4398046511104) (aC (isNeg (zs false (val A))) fun g=>aC (dg (zs false (val A)).natAbs) fun h=>aO C (aC (isNeg G) fun i=>aC (dg G.natAbs) fun j=>letI F:=pT.Pm (zv (i,j)) (zv (g,h));aO (dP (i,j)/\dP (g,h)/\g=false/\0<h.length/\j.length<=274877906942/\h.length<=274877906942) (aC (isNeg F) fun k=>aC (dg F.natAbs) fun l=>letI H:=zv (k,l)*zv (g,h);aO C (aC (isNeg G) fun m=>aC (dg G.natAbs) fun n=>aO (dP (k,l)/\dP (g,h)) (aC (isNeg H) fun o=>aC (dg H.natAbs) fun p=>letI I:=zv (m,n)-zv (o,p);aO (dP (m,n)/\dP (o,p)) (aC (isNeg I) fun q=>aC (dg I.natAbs) fun r=>letI B:=zv (q,r)/(↑((2:Nat)^(i64.wrap (c+1)).toNat):Int);aO (dP (q,r)/\(-9223372036854775808:Int)<=i64.wrap (c+1)/\i64.wrap (c+1)<9223372036854775808) (aC (isNeg B) fun s=>aC (dg B.natAbs) fun t=>some [D.agg [sc (bool k),ints u32 l],D.agg [sc (bool s),ints u32 t]])))))))):=cJ aU
def sp(m:Bool×List Int)(e q:Int):Prop×List D:=(dP m/\bl (zv m).natAbs<=64/\(-1200<=e/\e<=1000)/\1<=q/\q<=134700,[zD (k7 (zv m) e q),zD (y7 (zv m) e q)])
theorem aTH{m e:Int}{n:Nat}(hm:bl m.natAbs<=64)(he:e<=n):bl (mY.Zc m e).natAbs<=64+n:=by
 unfold mY.Zc;split
 ·rw[cDE,cLP];exact bYC (cH.Db hm) (by omega)
 ·exact bYC (fW (qI (cAH (by decide)))) (by omega)
theorem aKD{a b:Int}(hb:0<b):(pT.Pm a b).natAbs<=a.natAbs+1:=by
 obtain⟨n,rfl⟩:=cCM (cAO hb);have:=qI (z:=a) (q:=n) (by omega);unfold pT.Pm;split <;> omega
theorem spec:aZH E f182 aF nM (pN .i64) (pN .i64) sp:=by
 rintro m e q ⟨hm,bm,⟨e0,e1⟩,q0,q1⟩;have s:=start m.1 m.2 e q;have ha:val m.2=(zv m).natAbs:=(kL m).symm;have bJH:zv (m.1,m.2)=zv m:=rfl;have wt:i64.wrap (((bl (zv m).natAbs:Nat):Int)+e)=((bl (zv m).natAbs:Nat):Int)+e:=wrap_i64;have ht:t7 (zv m) e=(if((bl (zv m).natAbs:Nat):Int)+e>0 then((bl (zv m).natAbs:Nat):Int)+e else 0)+4:=rfl;have tb:4<=t7 (zv m) e/\t7 (zv m) e<=1068:=by rw[ht];split <;> omega
 have bQB:i64.wrap ((if((bl (zv m).natAbs:Nat):Int)+e>0 then((bl (zv m).natAbs:Nat):Int)+e else 0)+4)=t7 (zv m) e:=by rw[<-ht,wrap_i64]
 have ww:i64.wrap (q+t7 (zv m) e)=q+t7 (zv m) e:=wrap_i64;have we:i64.wrap (e+(q+t7 (zv m) e))=e+(q+t7 (zv m) e):=wrap_i64;have wq:i64.wrap (e+q)=e+q:=wrap_i64;have w1:i64.wrap (t7 (zv m) e+1)=t7 (zv m) e+1:=wrap_i64;have hx:mY.Zc (zv m) (e+(q+t7 (zv m) e))=x7 (zv m) e q:=rfl;have zf:∀n:Nat,zs false n=(n:Int):=fun _=>rfl
 have len:=hm.len;have bx:bl (x7 (zv m) e q).natAbs<=137000:=bYC (aTH (n:=136900) bm (by omega)) (by omega);have two2:bl 2=2:=rfl;have aZB:bl (x7 (zv m) e q*2).natAbs<=137002:=by rw[cDE];exact bYC (nC _ _) (by show bl _+bl 2<=_;omega)
 have bPG:bl (((x7 (zv m) e q).natAbs:Int)*4).natAbs<=137003:=by
  rw[cDE,cDF];have:bl 4=3:=rfl;exact bYC (nC _ _) (by show bl _+bl 4<=_;omega)
 obtain⟨w,hw⟩:=cCM (show 0<=q+t7 (zv m) e by omega);have bw:bl (2^w*3)<=137000:=by
  have h1:=nC (2^w) 3;have h2:=Tv w;have h3:bl 3=2:=rfl;omega
 have bWK:bl (2^w)<=137000:=by rw[Tv];omega
 have lw1:=fD bWK;have lw3:=fD bw;have lx4:=fD bPG;obtain⟨Fs,F0⟩:=cH.Cp (g:=w) (by omega);have lF:=fD Fs;have bRO:0<(dg (R.pF w)).length:=by
  have:=fT (n:=R.pF w);omega
 have bk:bl (pT.Pm (x7 (zv m) e q*2) (R.pF w:Nat)).natAbs<=137003:=by
  refine bYC (fW (aKD (by omega))) (bYC (qR _ _) ?_);have:bl 1=1:=rfl;omega
 have bWL:bl (pT.Pm (x7 (zv m) e q*2) (R.pF w:Nat)*(R.pF w:Nat)).natAbs<=280000:=by
  rw[cDE,cDF];exact bYC (nC _ _) (by omega)
 have br:bl (x7 (zv m) e q*2-pT.Pm (x7 (zv m) e q*2) (R.pF w:Nat)*(R.pF w:Nat)).natAbs<=280001:=by
  refine bYC (fW (show _<=(x7 (zv m) e q*2).natAbs+(pT.Pm (x7 (zv m) e q*2) (R.pF w:Nat)*(R.pF w:Nat)).natAbs by omega)) (bYC (qR _ _) ?_);omega
 have lx2:=fD aZB;have nF:isNeg (R.pF w:Int)=false:=fH.2 (cHN _);have kN:∀{n k:Nat},bl n<=k->k<=17179869184->dP (isNeg (n:Int),dg n):=by
  intro n k h1 h2;have:=dU (z:=(n:Int)) (k:=k) (by rw[cDF];exact h1) h2;rwa [cDF]at this
 have vN:∀n:Nat,zv (isNeg (n:Int),dg n)=(n:Int):=fun n=>by
  have:=iX (n:Int);rwa [cDF]at this
 simp only[ha,bJH,wt,bQB,ww,we,wq,hx]at s;simp only[hw,bYI,cBF,bD,zf,cDF,aB,iX,vN]at s;rw[gP ⟨hm.1,by omega⟩,gP ⟨hm,by omega,by omega⟩]at s;have aGV:aJE (zv m) e q=false->J6 false false (t7 (zv m) e) (w:Int) (isNeg (x7 (zv m) e q)) (dg (x7 (zv m) e q).natAbs)=some (sp m e q).2:=by
  intro hs;unfold sp k7 y7;dsimp only;rw[hs,cond_false,cond_false,k7,hs,cond_false,hw,cBF,uI];simp only[cBF,bD,zf,cDF,aB,iX,vN,w1];rw[gP ⟨by omega,by omega⟩,gP ⟨bZ _,by omega⟩,gP ⟨dU bx (by omega),by decide⟩,gP ⟨dU aZB (by omega),kN Fs (by omega),nF,bRO,by omega,by omega⟩,gP ⟨dU bx (by omega),by decide⟩,
   gP ⟨dU bk (by omega),kN Fs (by omega)⟩,gP ⟨dU aZB (by omega),dU bWL (by omega)⟩,gP ⟨dU br (by omega),by omega,by omega⟩]
  rfl
 by_cases c4:t7 (zv m) e=4
 ·rw[cL c4,gP (dU bx (by omega)),gP ⟨kN (by have:=bx;omega) (by omega),by decide⟩,gP,gP ⟨bZ _,by omega,⟨by decide,by decide⟩,by decide,by decide⟩,gP ⟨bZ _,by omega⟩,gP ⟨dU bPG (by omega),kN bw (by omega),by omega,by omega⟩]at s
  by_cases c5:((x7 (zv m) e q).natAbs:Int)*4<=((2^w*3:Nat):Int)
  ·have hs:aJE (zv m) e q=true:=by
    unfold aJE;rw[decide_eq_true c4,cAJ,hw,cBF];exact decide_eq_true c5
   have cz:cT (((x7 (zv m) e q).natAbs:Int)*4) ((2^w*3:Nat):Int)<=0:=by unfold cT;split <;> (try split) <;> omega
   rw[aR cz,gP ⟨hm,by omega,by omega⟩]at s;refine⟨_,s,?_⟩;unfold sp k7 y7;dsimp only;rw[hs,cond_true,cond_true];refine .cons ?_ (iV.refl _);unfold zD;rw[show(0:Int).natAbs=0 from rfl,cG];exact De.agg (.cons (Ew.refl _) (.cons (Ew.nil _) (Ae.refl _)))
  ·have cz:¬cT (((x7 (zv m) e q).natAbs:Int)*4) ((2^w*3:Nat):Int)<=0:=by unfold cT;split <;> (try split) <;> omega
   rw[aN cz]at s;refine⟨_,s.trans (aGV ?_),iV.refl _⟩;unfold aJE;rw[hw,cBF,decide_eq_false c5,cDB]
 ·rw[cO c4]at s;refine⟨_,s.trans (aGV ?_),iV.refl _⟩;unfold aJE;rw[decide_eq_false c4,cCU]
def aJ:dG:=orc3 nM (pN .i64) (pN .i64) sp
theorem ok:OK 182 aJ:=(dZ E aF (aA Ff.ok (aA mY.ok (aA Oh.ok (aA Bu.ok (aA aAW.ok (aA Mk.ok (aA sA.ok (aA aBC.ok (aA Gu.ok (aA Of.ok (aA nI.ok (aA Bt.ok (aA aNH.ok aE))))))))))))) func182).bHD rfl spec
end Rk
namespace Pa
def E:=mE [] 13 [] [(2,[0,3])] []
def aF:=bd f215
theorem aU:Nk E aF:=nk
def L2 a b:=nN E f215 aF 2 [bK a,bK b]
theorem start a:aG E f215 aF [D.s (sc (int i64 a))]=Pa.L2 a 8:=eJ aU
theorem lG a b:L2 a b=aD (decide (i64.wrap (i64.wrap ((4:Int)*b)*b)<a)) (Pa.L2 a (i64.wrap (b+1))) (some [D.s (sc (int i64 b))]):=lJ aU
def bJM(w:Int):Nat:=THalvings.hlv w 400 8
def sp(w:Int):Prop×List D:=(w<=600000,[.s (.sc (.int .i64 (bJM w:Nat)))])
theorem L{w:Int}(hw:w<=600000):∀f h:Nat,h+f=408->L2 w h=some [.s (.sc (.int .i64 (THalvings.hlv w f h:Nat)))]
 |0,h,hh=>by
  obtain rfl:h=408:=by omega
  have e:i64.wrap (i64.wrap (4*((408:Nat):Int))*((408:Nat):Int))=665856:=by decide +kernel
  rw[lG,e,aN];rfl
 |f+1,h,hh=>by
  have hm:4*(h:Int)*h<=4*408*408:=Int.mul_le_mul (by omega) (by omega) (by omega) (by omega);have h0:0<=4*(h:Int)*h:=cJI (by omega) (by omega);have e:i64.wrap (i64.wrap (4*(h:Int))*(h:Int))=4*(h:Int)*h:=by
   rw[wrap_i64 (n:=4*(h:Int))];exact wrap_i64
  have e1:i64.wrap ((h:Int)+1)=((h+1:Nat):Int):=by rw[wrap_i64];omega
  rw[lG,e,e1];unfold THalvings.hlv
  by_cases c:4*(h:Int)*h<w
  ·rw[aR c,if_pos c];exact L hw f (h+1) (by omega)
  ·rw[aN c,if_neg c]
theorem spec:iD E f215 aF (pN .i64) sp:=fun w h=>(start w).trans (L h 400 8 rfl)
def aJ:dG:=orc1 (pN .i64) sp
theorem ok:OK 215 aJ:=(dZ E aF aE func215).oS rfl spec
end Pa
namespace aNJ
def E:=mE [(122,Bt.aJ),(165,Ua.aJ)] 14 [] [] []
def aF:=bd f216
theorem aU:Nk E aF:=nk
theorem start a b d e c:aG E f216 aF [D.agg [sc (bool a),ints u32 b],D.agg [sc (bool d),ints u32 e],D.s (sc (bool c))]=letI C:=zv (a,b)+zv (d,e);letI B:=zv (a,b)-zv (d,e);letI A:=dP (a,b)/\dP (d,e);aD c (aO A (some [D.agg [sc (bool (isNeg B)),ints u32 (dg B.natAbs)]])) (aO A (some [D.agg [sc (bool (isNeg C)),ints u32 (dg C.natAbs)]])):=eJ aU
def sp(x y:Bool×List Int)(c:Bool):Prop×List D:=(dP x/\dP y,[zD (bif c then zv x-zv y else zv x+zv y)])
theorem spec:sR E f216 aF nM nM pB sp:=by
 intro x y c h;refine(start x.1 x.2 y.1 y.2 c).trans ?_;cases c
 ·rw[bF];exact gP h
 ·rw[bT];exact gP h
def aJ:dG:=orc3 nM nM pB sp
theorem ok:OK 216 aJ:=(dZ E aF (aA Bt.ok (aA Ua.ok aE)) func216).Cq rfl spec
end aNJ
namespace Yf
def can(a b:List Int):Prop:=Contract prog base.glob 236 [(pI .u32).put a,(pI .u32).put b] [.own kW .u32 (dg (val a*val b))]
def less(n:Nat):Prop:=∀c d:List Int,cI c->cI d->c.length+d.length<n->can c d
def prec:dG:=orc2 (pI .u32) (pI .u32) fun a b=>(can a b,[.own kW .u32 (dg (val a*val b))])
theorem Kj:lT prog base.glob 236 prec:=by
 intro ds g rs hd hg;unfold prec orc2 at hd;split at hd
 ·split at hd
  ·rename_i x y hx hy;have hd:=Option.some.inj hd;have e1:g=can x y:=(Prod.mk.inj hd).1.symm;have e2:=(Prod.mk.inj hd).2;subst e1;rw[<-e2];exact⟨Contract.bFP (show Contract _ _ _ _ _ from hg) ((pI .u32).le hx) ((pI .u32).le hy),vQ (c:=(f236.body).getD .skip) func236 rfl rfl⟩
  ·cases hd
 ·cases hd
end Yf
namespace aNR
def E:=mE [(235,Mul.aJ),(74,Norm.aJ),(81,Add.aJ),(201,Sub.aJ),(121,aPD.aJ),(236,Yf.prec)] 86 [22,41,85] [(7,[0,1,5])] [7]
def aF:=bd f236
theorem aU:Nk E aF:=nk
def J7 a b c:=lE E f236 aF 7 [mK a,mK b,bK c]
theorem start a b:aG E f236 aF [D.s (ints u32 a),D.s (ints u32 b)]=letI G:=dg (val a*val b);letI F:=(a.length:Int);letI C:=(b.length:Int);letI B:=bN a/\bN b/\a.length<=549755813888/\b.length<=549755813888;letI A:=if C>F then C else F;aD (decide ((if C<F then C else F)<64)) (aO B (aC G fun c=>some [D.own 112 u32 c])) (aD (decide (F<=i64.wrap (A.tdiv 2))) (aO B (aC G fun d=>some [D.own 112 u32 d])) (aD (decide (C<=i64.wrap (A.tdiv 2))) (aO B (aC G fun e=>some [D.own 112 u32 e])) (aNR.J7 a b (i64.wrap (A.tdiv 2))))):=eJ aU
theorem Gy a b c:J7 a b c=letI H:=(a.length:Int);letI G:=(b.length:Int);letI F:=cDH 0 (cDG c.toNat b);letI C:=cDH 0 (cDG c.toNat a);letI B:=cDH c.toNat (cDG G.toNat b);letI A:=cDH c.toNat (cDG H.toNat a);if(0:Int)<=(0:Int)/\0<=c/\c<=H then aO (bN C/\C.length<=4398046511104) (aC (dg (val C)) fun d=>if 0<=c/\c<=H/\H<=H then aO (bN A/\A.length<=4398046511104) (aC (dg (val A)) fun e=>if(0:Int)<=(0:Int)/\0<=c/\c<=G then aO (bN F/\F.length<=4398046511104) (aC (dg (val F)) fun f=>if 0<=c/\c<=G/\G<=G then aO (bN B/\B.length<=4398046511104) (aC (dg (val B)) fun g=>aO (Yf.can d f) (aC (dg (val d*val f)) fun h=>aO (Yf.can e g) (aC (dg (val e*val g)) fun i=>aO (bN d/\bN e/\d.length<=1099511627776/\e.length<=1099511627776) (aC (dg (val d+val e)) fun j=>aO (bN f/\bN g/\f.length<=1099511627776/\g.length<=1099511627776) (aC (dg (val f+val g)) fun k=>aO (Yf.can j k) (aC (dg (val j*val k)) fun l=>aO (bN h/\bN i/\h.length<=1099511627776/\i.length<=1099511627776) (aC (dg (val h+val i)) fun m=>aO (cI l/\cI m/\l.length<=4398046511104/\m.length<=4398046511104) (aC (dg (val l-val m)) fun n=>aO (cI n/\n.length<=1099511627776/\i64.wrap ((32:Int)*c)<=1099511627776) (aC (dg (val n*(2:Nat)^(i64.wrap ((32:Int)*c)).toNat)) fun o=>aO (cI i/\i.length<=1099511627776/\i64.wrap ((64:Int)*c)<=1099511627776) (aC (dg (val i*(2:Nat)^(i64.wrap ((64:Int)*c)).toNat)) fun p=>aO (bN o/\bN p/\o.length<=1099511627776/\p.length<=1099511627776) (aC (dg (val o+val p)) fun q=>aO (bN h/\bN q/\h.length<=1099511627776/\q.length<=1099511627776) (aC (dg (val h+val q)) fun r=>some [D.own 112 u32 r]))))))))))))else none)else none)else none)else none:=cJ aU
theorem split{a:List Int}(h:cI a){k:Nat}(hk:k<=a.length):val a=val (a.take k)+2^(32*k)*val (a.drop k):=by
 have:=eZ a hk;rwa [show(4294967296:Nat)^k=2^(32*k)from Iy k]at this
theorem aWJ{a0 a1 b0 b1 P:Nat}:a0*b0+(((a0+a1)*(b0+b1)-(a0*b0+a1*b1))*P+a1*b1*(P*P))=(a0+P*a1)*(b0+P*b1):=by
 have e:(a0+a1)*(b0+b1)-(a0*b0+a1*b1)=a0*b1+a1*b0:=by
  rw[bZU,cCO,cCO];omega
 rw[e];grind
theorem ml{u v m n:Nat}(hu:(dg u).length<=m)(hv:(dg v).length<=n):(dg (u*v)).length<=m+n:=by
 refine cU ?_;rw[cCH];have q1:u<4294967296^m:=bYH oK (cAI (by omega) hu);have q2:v<4294967296^n:=bYH oK (cAI (by omega) hv);exact cGK q1 q2
theorem al{u v m:Nat}(hu:(dg u).length<=m)(hv:(dg v).length<=m):(dg (u+v)).length<=m+1:=bYC (vO u v) (Nat.succ_le_succ (Nat.max_le.2 ⟨hu,hv⟩))
theorem sl{u v m:Nat}(hu:(dg u).length<=m):(dg (u-v)).length<=m:=bYC (zB u v) hu
theorem hl{u m k j:Nat}(hu:(dg u).length<=m)(hk:k=32*j):(dg (u*2^k)).length<=m+j+1:=by
 have h:=zE u k;have e:k/32=j:=by omega
 rw[e]at h;exact bYC h (cLT (cLT hu j) 1)
theorem aCJ{x0 x1 y0 y1 k:Nat}(n0:(dg x0).length<=k+1)(n1:(dg x1).length<=k+1)(n2:(dg y0).length<=k+1)(n3:(dg y1).length<=k+1) :
  (dg (x0+x1)).length<=k+2/\(dg (y0+y1)).length<=k+2/\(dg (x0*y0)).length<=5*k+20/\(dg (x1*y1)).length<=5*k+20/\(dg ((x0+x1)*(y0+y1))).length<=5*k+20/\(dg (x0*y0+x1*y1)).length<=5*k+20 /\
  (dg ((x0+x1)*(y0+y1)-(x0*y0+x1*y1))).length<=5*k+20/\(dg (((x0+x1)*(y0+y1)-(x0*y0+x1*y1))*2^(32*k))).length<=5*k+20/\(dg (x1*y1*2^(64*k))).length<=5*k+20 /\
  (dg (((x0+x1)*(y0+y1)-(x0*y0+x1*y1))*2^(32*k)+x1*y1*2^(64*k))).length<=5*k+20:=by
 have z1:k+1+(k+1)<=5*k+20:=by omega
 have z2:k+1+1+(k+1+1)<=5*k+20:=by omega
 have z3:k+1+(k+1)+1<=5*k+20:=by omega
 have z4:k+1+1+(k+1+1)+k+1<=4*k+19:=by omega
 have z5:k+1+(k+1)+2*k+1<=4*k+19:=by omega
 have z6:4*k+19+1<=5*k+20:=by omega
 have z7:4*k+19<=5*k+20:=by omega
 have aGM:64*k=32*(2*k):=by omega
 have s1:=al n0 n1;have s2:=al n2 n3;have t0:=ml n0 n2;have t1:=ml n1 n3;have t2:=ml s1 s2;have t3:=al t0 t1;have t4:=sl (v:=x0*y0+x1*y1) t2;have t5:=bYC (hl (k:=32*k) t4 rfl) z4;have t6:=bYC (hl (k:=64*k) t1 aGM) z5;exact⟨s1,s2,bYC t0 z1,bYC t1 z1,bYC t2 z2,bYC t3 z3,bYC t4 z2,bYC t5 z7,bYC t6 z7,bYC (al t5 t6) z6⟩
theorem eval{a b:List Int}(ha:cI a)(hb:cI b)(hN:a.length+b.length<=4294967296)(hc:Yf.less (a.length+b.length)):aG E f236 aF [(pI .u32).put a,(pI .u32).put b]=some [.own kW .u32 (dg (val a*val b))]:=by
 refine(start a b).trans ?_;have g0:bN a/\bN b/\a.length<=549755813888/\b.length<=549755813888:=⟨ha.gT,hb.gT,by omega,by omega⟩
 by_cases c1:(if(b.length:Int)<(a.length:Int)then(b.length:Int)else(a.length:Int))<64
 ·rw[aR c1,gP g0,aB]
 ·rw[aN c1];obtain⟨k,hk⟩:∃k:Nat,k=max a.length b.length/2:=⟨_,rfl⟩;have ek:i64.wrap ((if(b.length:Int)>(a.length:Int)then(b.length:Int)else(a.length:Int)).tdiv 2)=(k:Int):=by
   have e1:(if(b.length:Int)>(a.length:Int)then(b.length:Int)else(a.length:Int))=((max a.length b.length:Nat):Int):=by split <;> omega
   rw[e1,cEF (by omega),hk,wrap_i64];omega
  have bKZ:64<=a.length/\64<=b.length:=by revert c1;split <;> omega
  rw[ek]
  by_cases c2:a.length<=k
  ·rw[aR,gP g0,aB]
  ·rw[aN]
   by_cases c3:b.length<=k
   ·rw[aR,gP g0,aB]
   ·rw[aN,Gy];have k32:32<=k:=by omega
    have w1:i64.wrap (32*(k:Int))=((32*k:Nat):Int):=by rw[wrap_i64];omega
    have w2:i64.wrap (64*(k:Int))=((64*k:Nat):Int):=by rw[wrap_i64];omega
    have bLM:=ha.gT.take k;have bPF:=ha.gT.drop k;have bLL:=hb.gT.take k;have bPE:=hb.gT.drop k;have la0:(a.take k).length=k:=by rw[bZC];omega
    have la1:(a.drop k).length=a.length-k:=cEY;have lb0:(b.take k).length=k:=by rw[bZC];omega
    have lb1:(b.drop k).length=b.length-k:=cEY;have sa:=split ha (k:=k) (by omega);have sb:=split hb (k:=k) (by omega);simp only[w1,w2,cBF,cDT,cEH];have n0:(dg (val (a.take k))).length<=k+1:=by have:=lW bLM;omega
    have n1:(dg (val (a.drop k))).length<=a.length-k:=by have:=lW bPF;omega
    have n2:(dg (val (b.take k))).length<=k+1:=by have:=lW bLL;omega
    have n3:(dg (val (b.drop k))).length<=b.length-k:=by have:=lW bPE;omega
    have m0:(dg (val (a.take k))).length<=k:=by have:=lW bLM;omega
    have m2:(dg (val (b.take k))).length<=k:=by have:=lW bLL;omega
    have r1:a.length-k<=k+1:=by omega
    have r3:b.length-k<=k+1:=by omega
    have r5:5*k+20<=1099511627776:=by omega
    have r6:5*k+20<=4398046511104:=by omega
    have r7:k+1<=1099511627776:=by omega
    have r8:k+2<=1099511627776:=by omega
    have h1:k+k<a.length+b.length:=by omega
    have h2:a.length-k+(b.length-k)<a.length+b.length:=by omega
    have h3:k+2+(k+2)<a.length+b.length:=by omega
    have k1:((32*k:Nat):Int)<=1099511627776:=by omega
    have k2:((64*k:Nat):Int)<=1099511627776:=by omega
    have i1:(0:Int)<=0/\(0:Int)<=(k:Int)/\(k:Int)<=(a.length:Int):=by omega
    have i2:(0:Int)<=(k:Int)/\(k:Int)<=(a.length:Int)/\(a.length:Int)<=(a.length:Int):=by omega
    have i3:(0:Int)<=0/\(0:Int)<=(k:Int)/\(k:Int)<=(b.length:Int):=by omega
    have i4:(0:Int)<=(k:Int)/\(k:Int)<=(b.length:Int)/\(b.length:Int)<=(b.length:Int):=by omega
    have p0:(a.take k).length<=4398046511104:=by omega
    have p1:(a.drop k).length<=4398046511104:=by omega
    have p2:(b.take k).length<=4398046511104:=by omega
    have p3:(b.drop k).length<=4398046511104:=by omega
    obtain⟨s1,s2,t0,t1,t2,t3,t4,t5,t6,t7⟩:=aCJ n0 (bYC n1 r1) n2 (bYC n3 r3);rw[if_pos i1,gP ⟨bLM,p0⟩,aB,if_pos i2,gP ⟨bPF,p1⟩,aB,if_pos i3,gP ⟨bLL,p2⟩,aB,if_pos i4,gP ⟨bPE,p3⟩,aB];generalize val (a.take k)=x0 at *;generalize val (a.drop k)=x1 at *;generalize val (b.take k)=y0 at *;generalize val (b.drop k)=y1 at *;refine(gP (hc _ _ (bA _) (bA _) (cEC (cLS m0 m2) h1))).trans ?_;rw[aB,bD,bD];refine(gP (hc _ _ (bA _) (bA _) (cEC (cLS n1 n3) h2))).trans ?_;rw[aB,bD,bD];refine(gP ⟨bZ _,bZ _,bYC n0 r7,bYC (bYC n1 r1) r7⟩).trans ?_;rw[aB];refine(gP ⟨bZ _,bZ _,bYC n2 r7,bYC (bYC n3 r3) r7⟩).trans ?_;rw[aB];refine(gP (hc _ _ (bA _) (bA _) (cEC (cLS s1 s2) h3))).trans ?_;rw[aB,bD,bD];refine(gP ⟨bZ _,bZ _,bYC t0 r5,bYC t1 r5⟩).trans ?_;rw[aB,bD,bD];refine(gP ⟨bA _,bA _,bYC t2 r6,bYC t3 r6⟩).trans ?_;rw[aB,bD,bD];refine(gP ⟨bA _,bYC t4 r5,k1⟩).trans ?_;rw[aB,bD];refine(gP ⟨bA _,bYC t1 r5,k2⟩).trans ?_;rw[aB];refine(gP ⟨bZ _,bZ _,bYC t5 r5,bYC t6 r5⟩).trans ?_;rw[aB,bD,bD];refine(gP ⟨bZ _,bZ _,bYC t0 r5,bYC t7 r5⟩).trans ?_;rw[aB,bD];rw[sa,sb,<-aWJ,show 64*k=32*k+32*k by omega,cCH]
theorem fnok:qG prog E 236 f236 aF:=Hy oA mixed (iH _ rfl (aA Mul.ok (aA Norm.ok (aA Add.ok (aA Sub.ok (aA aPD.ok (aA Yf.Kj aE)))))) (lA)) func236 rfl rfl rfl
theorem all(n:Nat)(hn:n<=4294967296):Yf.less (n+1):=by
 induction n with
 |zero =>
  intro a b ha hb hl;refine fn_contract fnok.ty fnok.calls fnok.mix fnok.fnc fnok.body fnok.nt fnok.io (by exact bZF rfl) (eval ha hb (by omega) fun c d _ _ h=>by omega)
 |succ n ih =>
  intro a b ha hb hl;have ih:=ih (by omega);refine fn_contract fnok.ty fnok.calls fnok.mix fnok.fnc fnok.body fnok.nt fnok.io (by exact bZF rfl) (eval ha hb (by omega) fun c d hc hd h=>ih c d hc hd (by omega))
def sp(a b:List Int):Prop×List D:=(cI a/\cI b/\a.length+b.length<=4294967296,[.own kW .u32 (dg (val a*val b))])
theorem spec:eR E f236 aF (pI .u32) (pI .u32) sp:=by
 rintro a b ⟨ha,hb,hN⟩;exact eval ha hb hN fun c d hc hd h=>all (a.length+b.length) hN c d hc hd (by omega)
def aJ:dG:=orc2 (pI .u32) (pI .u32) sp
theorem ok:lT prog base.glob 236 aJ:=fnok.jR rfl spec
end aNR
namespace aZP
def E:=mE [(236,aNR.aJ),(80,Mk.aJ),(213,nI.aJ)] 20 [] [] []
def aF:=bd f217
theorem aU:Nk E aF:=nk
theorem start a b d e c:aG E f217 aF [D.agg [sc (bool a),ints u32 b],D.agg [sc (bool d),ints u32 e],D.s (sc (int i64 c))]=aO (cI b/\cI e/\b.length+e.length<=4294967296) (aC (dg (val b*val e)) fun f=>letI B:=zs (a !=d) (val f);aO (bN f/\f.length<=4398046511104) (aC (isNeg B) fun g=>aC (dg B.natAbs) fun h=>letI A:=zv (g,h)/(↑((2:Nat)^c.toNat):Int);aO (dP (g,h)/\(-9223372036854775808:Int)<=c/\c<9223372036854775808) (aC (isNeg A) fun i=>aC (dg A.natAbs) fun j=>some [D.agg [sc (bool i),ints u32 j]]))):=eJ aU
def sp(x y:Bool×List Int)(w:Int):Prop×List D:=(dP x/\dP y/\x.2.length+y.2.length<=4294967296/\-9223372036854775808<=w/\w<9223372036854775808,[zD (zv x*zv y/((2^w.toNat:Nat):Int))])
theorem spec:sR E f217 aF nM nM (pN .i64) sp:=by
 rintro x y w ⟨hx,hy,hl,h0,h1⟩;refine(start x.1 x.2 y.1 y.2 w).trans ((gP ⟨hx.1,hy.1,hl⟩).trans ?_);have l:=aNR.ml (u:=val x.2) (v:=val y.2) (m:=x.2.length) (n:=y.2.length) (Nat.le_of_eq (kX hx.1)) (Nat.le_of_eq (kX hy.1));have e:zs (x.1 !=y.1) (val x.2*val y.2)=zv x*zv y:=by
  unfold zv zs;cases x.1 <;> cases y.1 <;> simp[cDY,Int.neg_mul,cGW]
 have ea:(zv x*zv y).natAbs=val x.2*val y.2:=by rw[cDE,kL,kL]
 rw[aB,gP ⟨bZ _,by omega⟩];simp only[aB,bD,e,iX];rw[gP ⟨pV (by rw[ea];omega),h0,h1⟩];rfl
def aJ:dG:=orc3 nM nM (pN .i64) sp
theorem ok:OK 217 aJ:=(dZ E aF (aA aNR.ok (aA Mk.ok (aA nI.ok aE))) func217).Cq rfl spec
end aZP
namespace mW
def E:=mE [(215,Pa.aJ),(76,Bu.aJ),(80,Mk.aJ),(210,aBC.aJ),(63,yI.aJ),(216,aNJ.aJ),(217,aZP.aJ),(123,aAW.aJ),(218,pA.aJ),(122,Bt.aJ),(213,nI.aJ)] 101 [] [(17,[1,2,4,5,7,9,10,11,70,71]),(8,[1,2,4,5,6,7,8,9,10,11,12,13]),(13,[1,2,4,5,6,7,8,9,10,11,12,13])] [13]
def aF:=bd f183
theorem aU:Nk E aF:=nk
def L8 a b c d e f g h i j k l m n o p:=nN E f183 aF 8 [bK a,bM 1 74 [bC b,gU c],bM 2 74 [bC d,sc (slice none 0 0)],bM 3 74 [bC e,sc (slice none 0 0)],bK f,bK g,bM 6 74 [bC h,gU i],bM 7 74 [bC j,gU k],bM 8 74 [bC l,sc (slice none 0 0)],bM 9 74 [bC m,sc (slice none 0 0)],bM 10 74 [bC n,gU o],bK p]
def Qf a b c d e f g h i j k l m n o p q:=lE E f183 aF 13 [bK a,bM 1 74 [bC b,gU c],bM 2 74 [bC d,sc (slice none 0 0)],bM 3 74 [bC e,sc (slice none 0 0)],bK f,bK g,bM 6 74 [bC h,gU i],bM 7 74 [bC j,gU k],bM 8 74 [bC l,sc (slice none 0 0)],bM 9 74 [bC m,gU n],bM 10 74 [bC o,gU p],bK q]
def aOE a b c d e f g h i j k l m n o p q:=lE E f183 aF 13 [bK a,bM 1 74 [bC b,gU c],bM 2 74 [bC d,sc (slice none 0 0)],bM 3 74 [bC e,sc (slice none 0 0)],bK f,bK g,bM 6 74 [bC h,gU i],bM 7 74 [bC j,gU k],bM 8 74 [bC l,gU m],bM 9 74 [bC n,sc (slice none 0 0)],bM 10 74 [bC o,gU p],bK q]
def aVA a b c d e f g h i j k l:=nN E f183 aF 17 [bK a,bM 1 74 [bC b,gU c],bM 2 74 [bC d,sc (slice none 0 0)],bM 3 74 [bC e,sc (slice none 0 0)],bK f,bM 5 74 [bC g,gU h],bM 6 74 [bC i,sc (slice none 0 0)],bM 7 74 [bC j,sc (slice none 0 0)],bK k,bK l]
def bLX a b c d e f g h i j k l m n o p q:=nN E f183 aF 8 [bK a,bM 1 74 [bC b,gU c],bM 2 74 [bC d,sc (slice none 0 0)],bM 3 74 [bC e,sc (slice none 0 0)],bK f,bK g,bM 6 74 [bC h,gU i],bM 7 74 [bC j,gU k],bM 8 74 [bC l,sc (slice none 0 0)],bM 9 74 [bC m,gU n],bM 10 74 [bC o,gU p],bK q]
def aNV a b c d e f g h i j k l m n:=nN E f183 aF 17 [bK a,bM 1 74 [bC b,gU c],bM 2 74 [bC d,sc (slice none 0 0)],bM 3 74 [bC e,sc (slice none 0 0)],bK f,bM 5 74 [bC g,gU h],bM 6 74 [bC i,gU j],bM 7 74 [bC k,gU l],bK m,bK n]
def aOD a b c d e f g h i j k l m n o p q r:=lE E f183 aF 13 [bK a,bM 1 74 [bC b,gU c],bM 2 74 [bC d,sc (slice none 0 0)],bM 3 74 [bC e,sc (slice none 0 0)],bK f,bK g,bM 6 74 [bC h,gU i],bM 7 74 [bC j,gU k],bM 8 74 [bC l,gU m],bM 9 74 [bC n,gU o],bM 10 74 [bC p,gU q],bK r]
def bME a b c d e f g h i j k l m:=nN E f183 aF 17 [bK a,bM 1 74 [bC b,gU c],bM 2 74 [bC d,sc (slice none 0 0)],bM 3 74 [bC e,sc (slice none 0 0)],bK f,bM 5 74 [bC g,gU h],bM 6 74 [bC i,sc (slice none 0 0)],bM 7 74 [bC j,gU k],bK l,bK m]
def bGW a b c d e f g h i j k l m n o p q r:=nN E f183 aF 8 [bK a,bM 1 74 [bC b,gU c],bM 2 74 [bC d,sc (slice none 0 0)],bM 3 74 [bC e,sc (slice none 0 0)],bK f,bK g,bM 6 74 [bC h,gU i],bM 7 74 [bC j,gU k],bM 8 74 [bC l,gU m],bM 9 74 [bC n,gU o],bM 10 74 [bC p,gU q],bK r]
theorem start a c b:aG E f183 aF [D.agg [sc (bool a),ints u32 c],D.s (sc (int i64 b))]=letI A:=(↑(Pa.bJM b):Int);letI C:=zv (a,c)*(2:Int)^(i64.wrap ((64:Int)+i64.wrap ((3:Int)*A))).toNat;letI B:=i64.wrap (b+64)+i64.wrap ((4:Int)*A);aO (b<=600000) (aO (dP (a,c)/\i64.wrap ((64:Int)+i64.wrap ((3:Int)*A))<=1099511627776) (aC (isNeg C) fun d=>aC (dg C.natAbs) fun e=>aO (i64.wrap B<=1099511627776) (aC (dg ((2:Nat)^(i64.wrap B).toNat)) fun f=>letI F:=zs false (val f);aO (bN f/\f.length<=4398046511104) (mW.L8 b a c false false A (i64.wrap B) d e (isNeg F) (dg F.natAbs) false false (isNeg F) (dg F.natAbs) 0)))):=eJ aU
theorem yL a b c d e f g h i j k l m n o p:L8 a b c d e f g h i j k l m n o p=letI B:=bif p.tmod 4==(3:Int)then zv (l,[])-zv (n,o)else zv (l,[])+zv (n,o);letI A:=bif p.tmod 4==(2:Int)then zv (m,[])-zv (n,o)else zv (m,[])+zv (n,o);aO (dP (n,o)) (aC (cT (zv (n,o)) 0) fun q=>aD (q !=0) (aD (p.tmod 2==(0:Int)) (aO (dP (m,[])/\dP (n,o)) (aC (isNeg A) fun r=>aC (dg A.natAbs) fun s=>mW.Qf a b c d e f g h i j k l r s n o p)) (aO (dP (l,[])/\dP (n,o)) (aC (isNeg B) fun t=>aC (dg B.natAbs) fun u=>mW.aOE a b c d e f g h i j k t u m n o p))) (mW.aVA a b c d e g j k l m f 0)):=lJ aU
theorem Ab a b c d e f g h i j k l m n o p q:Qf a b c d e f g h i j k l m n o p q=letI B:=(↑(zv (h,i)).natAbs:Int);letI A:=i64.wrap (q+1);aO (dP (h,i)) (aC (isNeg B) fun r=>aC (dg B.natAbs) fun s=>aO (dP (o,p)/\dP (r,s)/\p.length+s.length<=4294967296/\(-9223372036854775808:Int)<=g/\g<9223372036854775808) (aC (dg (zv (o,p)*zv (r,s)/(↑((2:Nat)^g.toNat):Int)).natAbs) fun t=>aO (bN t/\t.length<=1099511627776/\0<u32.wrap A/\u32.wrap A<4294967296) (aC (dg (val t/(u32.wrap A).toNat)) fun u=>aO (bN u/\u.length<=4398046511104) (mW.bLX a b c d e f g h i j k l m n (isNeg (zs false (val u))) (dg (zs false (val u)).natAbs) A)))):=cJ aU
theorem aZQ a b c d e f g h i j k l m n o p q:bLX a b c d e f g h i j k l m n o p q=letI B:=bif q.tmod 4==(2:Int)then zv (m,n)-zv (o,p)else zv (m,n)+zv (o,p);letI A:=bif q.tmod 4==(3:Int)then zv (l,[])-zv (o,p)else zv (l,[])+zv (o,p);aO (dP (o,p)) (aC (cT (zv (o,p)) 0) fun r=>aD (r !=0) (aD (q.tmod 2==(0:Int)) (aO (dP (m,n)/\dP (o,p)) (aC (isNeg B) fun s=>aC (dg B.natAbs) fun t=>mW.Qf a b c d e f g h i j k l s t o p q)) (aO (dP (l,[])/\dP (o,p)) (aC (isNeg A) fun u=>aC (dg A.natAbs) fun v=>mW.aOD a b c d e f g h i j k u v m n o p q))) (mW.bME a b c d e g j k l m n f 0)):=lJ aU
theorem aFA a b c d e f g h i j k l m n:aNV a b c d e f g h i j k l m n=letI C:=(↑((2:Nat)^f.toNat):Int);letI G:=zv (i,j)*zv (i,j)/C;letI F:=zv (i,j)*zv (k,l)/C;letI B:=(isNeg (zs b (val j)),dg (zs b (val j)).natAbs);letI A:=(↑((2:Nat)^(i64.wrap (f-a)).toNat):Int);aD (decide (n<m)) (aO (dP (i,j)/\dP (k,l)/\j.length+l.length<=4294967296/\(-9223372036854775808:Int)<=f/\f<9223372036854775808) (aC (isNeg F) fun o=>aC (dg F.natAbs) fun p=>aO (dP (o,p)/\(1:Int)<=(1099511627776:Int)) (aC (isNeg (zv (o,p)*2)) fun q=>aC (dg (zv (o,p)*2).natAbs) fun r=>aO (dP (i,j)/\dP (i,j)/\j.length+j.length<=4294967296/\(-9223372036854775808:Int)<=f/\f<9223372036854775808) (aC (isNeg G) fun s=>aC (dg G.natAbs) fun t=>aO (dP (s,t)/\(1:Int)<=(1099511627776:Int)) (aC (isNeg (zv (s,t)*2)) fun u=>aC (dg (zv (s,t)*2).natAbs) fun v=>letI H:=zv (g,h)-zv (u,v);aO (dP (g,h)/\dP (u,v)) (aC (isNeg H) fun w=>aC (dg H.natAbs) fun x=>mW.aNV a b c d e f g h q r w x m (i64.wrap (n+1)))))))) (aO (bN j/\j.length<=4398046511104) (aO (dP B/\(-9223372036854775808:Int)<=i64.wrap (f-a)/\i64.wrap (f-a)<9223372036854775808) (aC (isNeg (zv B/A)) fun y=>aC (dg (zv B/A).natAbs) fun z=>aO (dP (k,l)/\(-9223372036854775808:Int)<=i64.wrap (f-a)/\i64.wrap (f-a)<9223372036854775808) (aC (isNeg (zv (k,l)/A)) fun aa=>aC (dg (zv (k,l)/A).natAbs) fun ab=>some [D.agg [sc (bool y),ints u32 z],D.agg [sc (bool aa),ints u32 ab]])))):=lJ aU
theorem aSW a b c d e f g h i j k l m n o p q r:aOD a b c d e f g h i j k l m n o p q r=letI B:=(↑(zv (h,i)).natAbs:Int);letI A:=i64.wrap (r+1);aO (dP (h,i)) (aC (isNeg B) fun s=>aC (dg B.natAbs) fun t=>aO (dP (p,q)/\dP (s,t)/\q.length+t.length<=4294967296/\(-9223372036854775808:Int)<=g/\g<9223372036854775808) (aC (dg (zv (p,q)*zv (s,t)/(↑((2:Nat)^g.toNat):Int)).natAbs) fun u=>aO (bN u/\u.length<=1099511627776/\0<u32.wrap A/\u32.wrap A<4294967296) (aC (dg (val u/(u32.wrap A).toNat)) fun v=>aO (bN v/\v.length<=4398046511104) (mW.bGW a b c d e f g h i j k l m n o (isNeg (zs false (val v))) (dg (zs false (val v)).natAbs) A)))):=cJ aU
theorem aNS a b c d e f g h i j k l m n o p q r:bGW a b c d e f g h i j k l m n o p q r=letI B:=bif r.tmod 4==(3:Int)then zv (l,m)-zv (p,q)else zv (l,m)+zv (p,q);letI A:=bif r.tmod 4==(2:Int)then zv (n,o)-zv (p,q)else zv (n,o)+zv (p,q);aO (dP (p,q)) (aC (cT (zv (p,q)) 0) fun s=>aD (s !=0) (aD (r.tmod 2==(0:Int)) (aO (dP (n,o)/\dP (p,q)) (aC (isNeg A) fun t=>aC (dg A.natAbs) fun u=>mW.aOD a b c d e f g h i j k l m t u p q r)) (aO (dP (l,m)/\dP (p,q)) (aC (isNeg B) fun v=>aC (dg B.natAbs) fun w=>mW.aOD a b c d e f g h i j k v w n o p q r))) (mW.aNV a b c d e g j k l m n o f 0)):=lJ aU
def sp(x:Bool×List Int)(q:Int):Prop×List D:=(dP x/\zv x≠0/\(0<=q/\q<=140000)/\(zv x).natAbs<=2^q.toNat,[zD (Ed (zv x) q.toNat),zD (Es (zv x) q.toNat)])
theorem mV{n k:Nat}(h:bl n<=k)(hk:k<=17179869184):dP (isNeg (n:Int),dg n):=by
 have:=dU (z:=(n:Int)) (k:=k) (by rw[cDF];exact h) hk;rwa [cDF]at this
theorem tO(n:Nat):zv (isNeg (n:Int),dg n)=(n:Int):=by
 have:=iX (n:Int);rwa [cDF]at this
theorem aVD(n:Nat):zs false n=(n:Int):=rfl
theorem Ts{n:Nat}:(cT (n:Int) 0 !=0)=decide (n≠0):=by
 unfold cT
 by_cases h:n=0
 ·subst h;rfl
 ·rw[bG,aT,decide_eq_true h];rfl
theorem jZ{n w:Nat}(h:n<=2^w):bl n<=w+1:=dX.2 (cEC h (cEE (by decide) (cJG w)))
def res(y1:Bool)(S C:Nat)(w q:Nat):Option (List D):=some [zD (zs y1 S/((2^(w-q):Nat):Int)),zD ((C:Int)/((2^(w-q):Nat):Int))]
theorem rN{a b w:Nat}:((a:Int)*(b:Int))/((2^w:Nat):Int)=((a*b/2^w:Nat):Int):=by rw[<-cDY,<-cDA]
theorem aIH{a:Nat}:(a:Int)*2=((2*a:Nat):Int):=by omega
theorem aQM{a b:Nat}(h:b<=a):(a:Int)-(b:Int)=((a-b:Nat):Int):=by omega
theorem D{q w h S0 C0:Nat}{y1 b3 b4:Bool}{y2:List Int}(hw:w<=150000)(hq:q<=w)(hh:h<=500)(pos:∀j,1<=j->j<=h->0<(R.pZ (2^w) j S0 C0).2):∀(d j s c:Nat),j+d=h->R.pZ (2^w) j S0 C0=(s,c)->(j=0->bl s<=w+20)->bl s<=w+42+j->(1<=j->c<=2^w)->bl c<=w+20 ->
  aNV q y1 y2 b3 b4 w (isNeg ((2^w:Nat):Int)) (dg (2^w)) (isNeg (s:Int)) (dg s) (isNeg (c:Int)) (dg c) h j=res y1 (R.pZ (2^w) h S0 C0).1 (R.pZ (2^w) h S0 C0).2 w q:=by
 intro d
 induction d with
 |zero =>
  intro j s c hj he _ hs _ hc;have ej:j=h:=by omega
  have ks:=mV hs (by omega);have kc:=mV hc (by omega);have ls:=fD hs;have wq:i64.wrap ((w:Int)-(q:Int))=((w-q:Nat):Int):=by rw[wrap_i64];omega
  have kz:dP (isNeg (zs y1 s),dg (zs y1 s).natAbs):=dU (by rw[nA];exact hs) (by omega);rw[aFA,aN];simp only[wq,bD,cBF,aB,iX,tO];rw[gP ⟨bZ _,by omega⟩,gP ⟨kz,by omega,by omega⟩,gP ⟨kc,by omega,by omega⟩,<-ej,he];rfl
 |succ d ih =>
  intro j s c hj he h0 hs bUL hc;have ks:=mV hs (by omega);have kc:=mV hc (by omega);have ls:=fD hs;have lc:=fD hc;have w1:i64.wrap ((j:Int)+1)=((j+1:Nat):Int):=by rw[wrap_i64];omega
  have back:=R.Xm (2^w) j S0 C0;rw[he]at back;dsimp only at back;have hp:=pos (j+1) (by omega) (by omega);rw[back]at hp;dsimp only at hp;have le:2*(s*s/2^w)<=2^w:=by omega
  have W0:0<2^w:=cAH (by decide);have b1:bl (s*c/2^w)<=w+42+j:=by
   by_cases j0:j=0
   ·refine dX.2 (cDC ?_);rw[<-cCH];refine bYH (wP _) (cAI (by decide) ?_);have:=nC s c;have:=h0 j0;omega
   ·have:s*c/2^w<=s:=cIM (by rw[cCI (2^w)];exact bZW _ (bUL (by omega)));exact bYC (fW this) hs
  have bWO:bl (2*(s*c/2^w))<=w+42+(j+1):=by
   have h1:=dX.1 b1;refine dX.2 ?_;rw[<-cAY,cCK];omega
  have bPI:bl (2*(s*s/2^w))<=w+1:=jZ le;have b2:bl (s*s/2^w)<=w+1:=bYC (fW (by omega)) bPI;have bWN:bl (2^w-2*(s*s/2^w))<=w+20:=bYC (jZ (cDX _ _)) (by omega);have kw:=mV (n:=2^w) (k:=w+1) (jZ (bXK _)) (by omega);rw[aFA,aR];simp only[aB,tO,cBF,rN,cDF,aIH,w1,aQM le];rw[gP ⟨ks,kc,by omega,by omega,by omega⟩,gP ⟨mV b1 (by omega),by decide⟩,gP ⟨ks,ks,by omega,by omega,by omega⟩,gP ⟨mV b2 (by omega),by decide⟩,gP ⟨kw,mV bPI (by omega)⟩];exact ih (j+1) _ _ (by omega) back (fun h=>by omega) bWO (fun _=>cDX _ _) bWN
theorem aIA{k:Nat}(hk:k<=200000):i64.wrap ((k:Int)+1)=((k+1:Nat):Int)/\u32.wrap ((k+1:Nat):Int)=((k+1:Nat):Int):=⟨by rw[wrap_i64];omega,oJ (by omega)⟩
theorem aCD{u w k:Nat}:R.sq u (2^w) k*u/2^w/(k+1)=R.sq u (2^w) (k+1):=rfl
theorem aQO(k:Nat):((k:Int).tmod 2==0)=decide (k%2=0):=by
 rw[cEG (by omega)]
 by_cases h:k%2=0
 ·rw[decide_eq_true h];exact beq_iff_eq.2 (by omega)
 ·rw[decide_eq_false h];exact beq_eq_false_iff_ne.2 (by omega)
theorem Wf(k:Nat)(m:Nat):((k:Int).tmod 4==(m:Int))=(k%4==m):=by
 rw[cEG (by omega)]
 by_cases h:k%4=m
 ·rw[show(k%4==m)=true from beq_iff_eq.2 h];exact beq_iff_eq.2 (by omega)
 ·rw[show(k%4==m)=false from beq_eq_false_iff_ne.2 h];exact beq_eq_false_iff_ne.2 (by omega)
theorem aZG{q h w k:Nat}{y1 b3 b4 o1 s1 c1:Bool}{y2 o2 s2 c2:List Int}{a:Int}(hw:w<=150000)(ha:a.natAbs<=2^w)(hk:k<=200000) :
  aOD q y1 y2 b3 b4 h w (isNeg a) (dg a.natAbs) o1 o2 s1 s2 c1 c2 (isNeg ((R.sq a.natAbs (2^w) k:Nat):Int)) (dg (R.sq a.natAbs (2^w) k)) k =
  bGW q y1 y2 b3 b4 h w (isNeg a) (dg a.natAbs) o1 o2 s1 s2 c1 c2 (isNeg ((R.sq a.natAbs (2^w) (k+1):Nat):Int)) (dg (R.sq a.natAbs (2^w) (k+1))) (k+1:Nat):=by
 have ht:=TSums.xP ha k;have bFZ:=TSums.xP ha (k+1);have bt:=jZ ht;have ba:=jZ ha;have lt:=fD bt;have la:=fD ba;obtain⟨w1,w2⟩:=aIA hk;have hd:R.sq a.natAbs (2^w) k*a.natAbs/2^w<=2^w:=by
  refine bYC (cIM ?_) ht;rw[cCI (2^w)];exact bZW _ ha
 have ld:=fD (jZ hd);have ln:=fD (jZ bFZ);rw[aSW];simp only[aB,tO,iX,cBF,rN,cDF,bD,w1,w2,aVD,aCD];rw[gP (dU ba (by omega)),gP ⟨mV bt (by omega),mV ba (by omega),by omega,by omega,by omega⟩,gP ⟨bZ _,by omega,by omega,by omega⟩,gP ⟨bZ _,by omega⟩]
theorem bXA{q h w k:Nat}{y1 b3 b4 o1 s1 c1:Bool}{y2 o2 c2:List Int}{a:Int}(hw:w<=150000)(ha:a.natAbs<=2^w)(hk:k<=200000) :
  Qf q y1 y2 b3 b4 h w (isNeg a) (dg a.natAbs) o1 o2 s1 c1 c2 (isNeg ((R.sq a.natAbs (2^w) k:Nat):Int)) (dg (R.sq a.natAbs (2^w) k)) k =
  bLX q y1 y2 b3 b4 h w (isNeg a) (dg a.natAbs) o1 o2 s1 c1 c2 (isNeg ((R.sq a.natAbs (2^w) (k+1):Nat):Int)) (dg (R.sq a.natAbs (2^w) (k+1))) (k+1:Nat):=by
 have ht:=TSums.xP ha k;have bFZ:=TSums.xP ha (k+1);have bt:=jZ ht;have ba:=jZ ha;have lt:=fD bt;have la:=fD ba;obtain⟨w1,w2⟩:=aIA hk;have hd:R.sq a.natAbs (2^w) k*a.natAbs/2^w<=2^w:=by
  refine bYC (cIM ?_) ht;rw[cCI (2^w)];exact bZW _ ha
 have ld:=fD (jZ hd);have ln:=fD (jZ bFZ);rw[Ab];simp only[aB,tO,iX,cBF,rN,cDF,bD,w1,w2,aVD,aCD];rw[gP (dU ba (by omega)),gP ⟨mV bt (by omega),mV ba (by omega),by omega,by omega,by omega⟩,gP ⟨bZ _,by omega,by omega,by omega⟩,gP ⟨bZ _,by omega⟩]
theorem aJA{u w k:Nat}(hu:u<=2^w)(hk:k<=200000):bl (R.zsum u (2^w) k).1.natAbs<=w+19/\bl (R.zsum u (2^w) k).2.natAbs<=w+19:=by
 obtain⟨h1,h2⟩:=R.Vd hu k;have hb:k*2^w<=2^(w+18):=by
  rw[cCH,cCI];exact bZW _ (by have:(2:Nat)^18=262144:=rfl;omega)
 exact⟨jZ (bYC h1 hb),jZ (bYC h2 hb)⟩
theorem Lp{q h w:Nat}{y1 b3 b4:Bool}{y2:List Int}{a:Int}(hw:w<=150000)(hq:q<=w)(hh:h<=500)(h1:1<=h)(ha:2^h*a.natAbs<=2^w)(bIK:4*h+50<=w):∀f k:Nat,k+f=w+1 ->
  bGW q y1 y2 b3 b4 h w (isNeg a) (dg a.natAbs) (isNeg ((2^w:Nat):Int)) (dg (2^w)) (isNeg (R.zsum a.natAbs (2^w) k).2) (dg (R.zsum a.natAbs (2^w) k).2.natAbs) (isNeg (R.zsum a.natAbs (2^w) k).1) (dg (R.zsum a.natAbs (2^w) k).1.natAbs) (isNeg ((R.sq a.natAbs (2^w) k:Nat):Int)) (dg (R.sq a.natAbs (2^w) k)) k =
  res y1 (R.pZ (2^w) h (TSums.xN a.natAbs w) (TSums.xO a.natAbs w)).1 (R.pZ (2^w) h (TSums.xN a.natAbs w) (TSums.xO a.natAbs w)).2 w q:=by
 have h2:2<=2^h:=cAI (n:=2) (by decide) h1;have aYA:2*a.natAbs<=2^w:=bYC (cBK _ h2) ha;have Qw:a.natAbs<=2^w:=by omega
 have fin:∀k,k<=w+1->R.sq a.natAbs (2^w) k=0->aNV q y1 y2 b3 b4 w (isNeg ((2^w:Nat):Int)) (dg (2^w)) (isNeg (R.zsum a.natAbs (2^w) k).2) (dg (R.zsum a.natAbs (2^w) k).2.natAbs) (isNeg (R.zsum a.natAbs (2^w) k).1) (dg (R.zsum a.natAbs (2^w) k).1.natAbs) h 0=res y1 (R.pZ (2^w) h (TSums.xN a.natAbs w) (TSums.xO a.natAbs w)).1 (R.pZ (2^w) h (TSums.xN a.natAbs w) (TSums.xO a.natAbs w)).2 w q:=by
  intro k hk hz;obtain⟨c1,c2⟩:=aJA (k:=k) Qw (by omega);rw[R.aHW Qw hk hz]at c1 c2 ⊢;dsimp only at c1 c2 ⊢;rw[cDF]at c1 c2;rw[cDF,cDF];exact D hw hq hh (fun j a1 a2=>R.aRZ ha bIK (by omega) a1 a2) h 0 _ _ (by omega) rfl (fun _=>by omega) (by omega) (fun h=>by omega) (by omega)
 intro f
 induction f with
 |zero =>
  intro k hk;have hz:R.sq a.natAbs (2^w) k=0:=by rw[show k=w+1 by omega];exact R.Rx aYA
  have r:=fin k (by omega) hz;have k0:=mV (n:=R.sq a.natAbs (2^w) k) (k:=0) (by rw[hz];exact bXK _) (by omega);rw[aNS,gP k0,aB,tO,Ts,hz,decide_eq_false (fun h=>h rfl),bF];exact r
 |succ f ih =>
  intro k hk;have bt:=jZ (TSums.xP Qw k);have kt:=mV bt (by omega);obtain⟨c1,c2⟩:=aJA (k:=k) Qw (by omega);have kc:=dU c1 (by omega);have ks:=dU c2 (by omega);rw[aNS,gP kt,aB,tO,Ts]
  by_cases hz:R.sq a.natAbs (2^w) k=0
  ·rw[decide_eq_false (fun h=>h hz),bF];exact fin k (by omega) hz
  ·have i:=ih (k+1) (by omega);rw[R.Hc]at i;rw[decide_eq_true hz,bT,aQO];have m2:=Wf k 2;have m3:=Wf k 3
   by_cases hp:k%2=0
   ·rw[if_pos hp]at i;dsimp only at i;rw[decide_eq_true hp,bT,gP ⟨kc,kt⟩];simp only[aB,iX,tO];rw[show((k:Int).tmod 4==2)=(k%4==2)from m2,aZG hw Qw (by omega)];exact i
   ·rw[if_neg hp]at i;dsimp only at i;rw[decide_eq_false hp,bF,gP ⟨ks,kt⟩];simp only[aB,iX,tO];rw[show((k:Int).tmod 4==3)=(k%4==3)from m3,aZG hw Qw (by omega)];exact i
theorem spec:eR E f183 aF nM (pN .i64) sp:=by
 rintro x q ⟨hx,x0,⟨q0,q1⟩,hy⟩;obtain⟨q,rfl⟩:=cCM q0;rw[cBF]at hy;refine(start x.1 x.2 q).trans ?_;obtain⟨a1,a2⟩:=aUU q;have eh:Pa.bJM (q:Int)=h7 q:=rfl;have aFT:zv (x.1,x.2)=zv x:=rfl;have e1:i64.wrap (64+i64.wrap (3*((h7 q:Nat):Int)))=((64+3*h7 q:Nat):Int):=by rw[wrap_i64 (n:=3*((h7 q:Nat):Int)),wrap_i64];omega
 have e2:i64.wrap (i64.wrap ((q:Int)+64)+i64.wrap (4*((h7 q:Nat):Int)))=((w7 q:Nat):Int):=by
  rw[wrap_i64 (n:=(q:Int)+64),wrap_i64 (n:=4*((h7 q:Nat):Int)),wrap_i64];unfold w7;omega
 have hw:w7 q<=150000:=by unfold w7;omega
 have hq:q<=w7 q:=by unfold w7;omega
 have bIK:4*h7 q+50<=w7 q:=by unfold w7;omega
 obtain⟨a,ha⟩:∃a:Int,a=zv x*2^(64+3*h7 q):=⟨_,rfl⟩;have aa:a.natAbs=u7 (zv x) q:=by rw[ha,cDE,cLP];rfl
 have hu:=aTC hy;rw[<-aa]at hu;have h2:1<=2^h7 q:=cAH (by decide);have Qw:a.natAbs<=2^w7 q:=by
  have:=cBK a.natAbs h2;omega
 have a0:a.natAbs≠0:=by
  rw[aa];unfold u7;exact Nat.ne_of_gt (Nat.mul_pos (by omega) (cAH (by decide)))
 have lw:=fD (jZ (bXK (2^w7 q)));simp only[aFT,eh,e1,e2,cBF,aB,bD,aVD,cDF];rw[<-ha,gP,gP ⟨hx,by omega⟩,gP,gP ⟨bZ _,by omega⟩];have kw:=mV (jZ (bXK (2^w7 q))) (by omega);have z0:zv (false,[])=0:=rfl;have k0:dP (false,[]):=⟨Ga,(fun h=>absurd (show false=true from h) (by decide)),cCR _⟩;have s0:R.sq a.natAbs (2^w7 q) 0=2^w7 q:=rfl;have s1:R.sq a.natAbs (2^w7 q) 1=a.natAbs:=by
  show 2^w7 q*a.natAbs/2^w7 q/1=_;rw[cJA,Nat.mul_div_cancel_left _ (cAH (by decide))]
 have p0:2^w7 q≠0:=Nat.ne_of_gt (cAH (by decide));have zero:(0:Int)=((0:Nat):Int):=rfl;have r0:=bXA (q:=q) (h:=h7 q) (w:=w7 q) (k:=0) (y1:=x.1) (b3:=false) (b4:=false) (o1:=isNeg ((2^w7 q:Nat):Int)) (s1:=false) (c1:=isNeg ((2^w7 q:Nat):Int)) (y2:=x.2) (o2:=dg (2^w7 q)) (c2:=dg (2^w7 q)) hw Qw (by omega);rw[s0]at r0;have ka:dP (isNeg (a.natAbs:Int),dg a.natAbs):=mV (jZ Qw) (by omega);have fin:=Lp (q:=q) (h:=h7 q) (w:=w7 q) (y1:=x.1) (b3:=false) (b4:=false) (y2:=x.2) (a:=a) hw hq (by omega) (by omega) hu bIK (w7 q-1) 2 (by omega);have bPV:R.zsum a.natAbs (2^w7 q) 2=(((2^w7 q:Nat):Int),(a.natAbs:Int)):=by
  show(_,_)=(_,_);simp[R.zsum,s0,s1]
 rw[bPV]at fin;dsimp only at fin;rw[cDF,cDF]at fin;rw[yL,gP kw,aB,tO,Ts,decide_eq_true p0,bT];rw[show((0:Int).tmod 2==0)=true from rfl,bT,gP ⟨k0,kw⟩];simp only[aB,tO,z0,show((0:Int).tmod 4==2)=false from rfl,cond_false,Int.zero_add,cDF];refine Eq.trans r0 ?_;rw[show 0+1=1 from rfl,s1,aZQ,gP ka,aB,tO,Ts,decide_eq_true a0,bT];rw[show(((1:Nat):Int).tmod 2==0)=false from rfl,bF,gP ⟨k0,ka⟩];simp only[aB,tO,z0,show(((1:Nat):Int).tmod 4==3)=false from rfl,cond_false,Int.zero_add,cDF];have r1:=aZG (q:=q) (h:=h7 q) (w:=w7 q) (k:=1) (y1:=x.1) (b3:=false) (b4:=false) (o1:=isNeg ((2^w7 q:Nat):Int)) (s1:=isNeg (a.natAbs:Int)) (c1:=isNeg ((2^w7 q:Nat):Int)) (y2:=x.2) (o2:=dg (2^w7 q)) (s2:=dg a.natAbs) (c2:=dg (2^w7 q)) hw Qw (by omega);rw[s1]at r1;refine Eq.trans r1 (Eq.trans fin ?_);unfold sp Ed Es aTI res;rw[cBF,<-aa];have en:zs x.1 (R.pZ (2^w7 q) (h7 q) (TSums.xN a.natAbs (w7 q)) (TSums.xO a.natAbs (w7 q))).1=zs (isNeg (zv x)) (R.pZ (2^w7 q) (h7 q) (TSums.xN a.natAbs (w7 q)) (TSums.xO a.natAbs (w7 q))).1:=by rw[hx.cells.1]
 rw[en]
def aJ:dG:=orc2 nM (pN .i64) sp
theorem ok:OK 183 aJ:=(dZ E aF (aA Pa.ok (aA Bu.ok (aA Mk.ok (aA aBC.ok (aA yI.ok (aA aNJ.ok (aA aZP.ok (aA aAW.ok (aA pA.ok (aA Bt.ok (aA nI.ok aE))))))))))) func183).jR rfl spec
end mW
namespace To
def E:=mE [(74,Norm.aJ)] 44 [] [(4,[3,4,5])] []
def aF:=bd f119
theorem aU:Nk E aF:=nk
def L4 a (b:Nat) (c:List Int) d:=nN E f119 aF 4 [mK a,Dg 1 b 23 c,bK d]
theorem start a:aG E f119 aF [D.s (ints u32 a)]=letI A:=i64.wrap ((↑(dg (val a)).length:Int).tdiv 2)+1;aO (bN a/\a.length<=4398046511104) (if(0:Int)<=(0:Int)/\0<=i64.wrap A/\i64.wrap A<=8796093022208 then To.L4 (dg (val a)) 0 (bZK 0 (0:Int)) 0 else none):=eJ aU
theorem kV a b c d:L4 a b c d=letI C:=(a.length:Int);letI B:=a.getD d.toNat 0;letI G:=c.length+[u64.wrap B].length;letI A:=u64.wrap B+u64.wrap (u64.wrap (a.getD (i64.wrap (d+1)).toNat 0)*4294967296);letI F:=c.length+[u64.wrap A].length;aD (decide (d<C)) (if 0<=d/\d<C then aD (decide (i64.wrap (d+1)<C)) (if 0<=i64.wrap (d+1)/\i64.wrap (d+1)<C then if(0:Nat)<[u64.wrap A].length/\(F:Int)<=(8796093022208:Int)then To.L4 a F (c ++ [u64.wrap A]) (i64.wrap (d+2))else none else none) (if(0:Nat)<[u64.wrap B].length/\(G:Int)<=(8796093022208:Int)then To.L4 a G (c ++ [u64.wrap B]) (i64.wrap (d+2))else none)else none) (some [D.own 23 u64 c]):=lJ aU
theorem L{d:List Int}(hd:cI d)(hl:d.length<=4398046511104):∀(k i:Nat) (xs:List Int),i+k>=d.length->i<=d.length+1->xs.length<=i ->
  L4 d xs.length xs i=some [D.own gN .u64 (xs ++ M6.dg (val (d.drop i)))]:=by
 intro k
 induction k using Nat.strongRecOn with
 |_ k ih =>
  intro i xs hk hi Dj;rw[kV]
  by_cases h:i<d.length
  ·have g0:=hd.gT.get i;have g1:=hd.gT.get (i+1);have e':((i:Int)).toNat=i:=cBF i;have e1:((i:Int)+1).toNat=i+1:=by omega
   have hz:val (d.drop i)≠0:=by
    intro h0;have hn:cI (d.drop i):=Bd (hd.gT.drop i) fun e he=>hd.top (by
     rw[List.getLast?_drop]at he;rw[bG]at he;exact he)
    have:=(cX hn).2 h0;rw[cEY]at this;omega
   have ev:=gB (a:=d) i;have ev1:val (d.drop (i+1))=(d.getD (i+1) 0).toNat+4294967296*val (d.drop (i+2)):=gB (i+1);have key:M6.dg (val (d.drop i))=(d.getD i 0+d.getD (i+1) 0*4294967296) :: M6.dg (val (d.drop (i+2))):=by
    rw[M6.oV hz];congr 1
    ·omega
    ·congr 1;omega
   rw[aR,aT,e',wrap_i64 (n:=(i:Int)+1),wrap_i64 (n:=(i:Int)+2),e1,wrap_u64 (n:=d.getD i 0),wrap_u64 (n:=d.getD (i+1) 0),
    wrap_u64 (n:=d.getD (i+1) 0*4294967296),wrap_u64]
   by_cases h1:i+1<d.length
   ·rw[aR,aT,if_pos ⟨by simp,by simp;omega⟩];have:=ih (k-2) (by omega) (i+2) (xs ++ [d.getD i 0+d.getD (i+1) 0*4294967296]) (by omega) (by omega) (by simp;omega);simp only[bZY,cAS,cAT]at this ⊢;rw[show((i:Int)+2)=((i+2:Nat):Int)from by omega,this,key,bYY];rfl
   ·have bGK:d.getD (i+1) 0=0:=getD_none (by omega);rw[aN,if_pos ⟨by simp,by simp;omega⟩];have:=ih (k-1) (by omega) (i+2) (xs ++ [d.getD i 0]) (by omega) (by omega) (by simp;omega);simp only[bZY,cAS,cAT]at this ⊢;rw[show((i:Int)+2)=((i+2:Nat):Int)from by omega,this,key,bGK,Int.zero_mul,cJN,bYY];rfl
  ·rw[aN,List.drop_eq_nil_of_le (by omega)];simp[val,M6.cG]
def sp(a:List Int):Prop×List D:=(bN a/\a.length<=1099511627776,[.own gN .u64 (M6.dg (val a))])
theorem spec:iD E f119 aF (pI .u32) sp:=by
 rintro a ⟨ha,h1⟩;refine(start a).trans ?_;have:=lW ha;rw[gP ⟨ha,by omega⟩,cEF (by omega),wrap_i64 (n:=((dg (val a)).length:Int)/2) (by omega) (by omega),wrap_i64,if_pos ⟨by omega,by omega,by omega⟩];have:=L (bA (val a)) (by omega) (dg (val a)).length 0 [] (by omega) (by omega) (by simp);simp only[cAT,cDT,List.nil_append,bD]at this;exact this
def aJ:dG:=orc1 (pI .u32) sp
theorem ok:OK 119 aJ:=(dZ E aF (aA Norm.ok aE) func119).oS rfl spec
end To
namespace Fits
def E:=mE [(119,To.aJ)] 16 [] [] []
def aF:=bd f220
theorem aU:Nk E aF:=nk
theorem start a:aG E f220 aF [D.s (ints u32 a)]=letI A:=(↑(M6.dg (val a)).length:Int);aO (bN a/\a.length<=1099511627776) (aD (A==(0:Int)) (some [D.s (sc (int u64 0)),D.s (sc (bool true))]) (aD (A==(1:Int)) (if(0:Int)<=(0:Int)/\0<A then some [D.s (sc (int u64 ((M6.dg (val a)).getD 0 0))),D.s (sc (bool true))]else none) (some [D.s (sc (int u64 0)),D.s (sc (bool false))]))):=eJ aU
def sp(a:List Int):Prop×List D:=(bN a/\a.length<=1099511627776,[.s (.sc (.int .u64 ((if val a<18446744073709551616 then val a else 0:Nat):Int))),.s (.sc (.bool (decide (val a<18446744073709551616))))])
theorem spec:iD E f220 aF (pI .u32) sp:=by
 intro a h;refine(start a).trans ?_;refine(gP h).trans ?_;unfold sp;simp only
 by_cases h0:val a=0
 ·rw[h0,M6.cG];rfl
 ·by_cases h1:val a<18446744073709551616
  ·rw[if_pos h1,decide_eq_true h1,M6.oV h0,cIZ h1,cCW h1,M6.cG];rfl
  ·rw[if_neg h1,decide_eq_false h1];have hl:1<(M6.dg (val a)).length:=by
    rw[M6.oV h0,cAS];have:(M6.dg (val a/18446744073709551616)).length≠0:=fun hh=>by have:=M6.fT.1 hh;omega
    omega
   rw[cO,cO];rfl
def aJ:dG:=orc1 (pI .u32) sp
theorem ok:OK 220 aJ:=(dZ E aF (aA To.ok aE) func220).oS rfl spec
end Fits
namespace aGX
def E:=mE [(220,Fits.aJ)] 33 [] [] []
def aF:=bd f185
theorem aU:Nk E aF:=nk
theorem start a b:aG E f185 aF [D.agg [sc (bool a),ints u32 b]]=letI F:=sc (bool true);letI C:=some [D.s (sc (int i64 0)),D.s (sc (bool false))];letI B:=(↑(if val b<18446744073709551616 then val b else(0:Nat)):Int);letI A:=aD (decide (9223372036854775808<=B)) C (aD a (some [D.s (sc (int i64 (i64.wrap ((0:Int)-i64.wrap B)))),D.s F]) (some [D.s (sc (int i64 (i64.wrap B))),D.s F]));aO (bN b/\b.length<=1099511627776) (aD (!decide (val b<18446744073709551616)) C (aD a (aD (B==(9223372036854775808:Int)) (some [D.s (sc (int i64 (-9223372036854775808:Int))),D.s F]) A) A)):=eJ aU
def aOQ(z:Int):Bool:=decide (-9223372036854775808<=z)&&decide (z<9223372036854775808)
def sp(x:Bool×List Int):Prop×List D:=(dP x,[.s (.sc (.int .i64 (bif aOQ (zv x)then zv x else 0))),.s (.sc (.bool (aOQ (zv x))))])
theorem spec:iD E f185 aF nM sp:=by
 intro x h;have h:dP x:=h;have l:=h.len;refine(start x.1 x.2).trans ((gP ⟨h.1.gT,by omega⟩).trans ?_);have yes:∀z:Int,-9223372036854775808<=z->z<9223372036854775808->aOQ z=true:=fun z h h'=>by unfold aOQ;rw[decide_eq_true h,decide_eq_true h'];rfl
 have no:∀z:Int,(z < -9223372036854775808\/9223372036854775808<=z)->aOQ z=false:=fun z h=>by
  unfold aOQ;rcases h with h |h
  ·rw[decide_eq_false (by omega),cCU]
  ·rw[decide_eq_false (show ¬z<_ by omega),cDB]
 unfold sp
 try dsimp only
 obtain⟨b,a⟩:=x
 try dsimp only at *
 by_cases h1:val a<18446744073709551616
 ·rw[decide_eq_true h1,if_pos h1,bZH,bF];cases b with
  |true =>
   have hz:zv (true,a)=-(val a:Int):=rfl;rw[bT,bT]
   by_cases h2:(val a:Int)=9223372036854775808
   ·rw[cL h2,yes _ (by omega) (by omega),hz,h2];rfl
   ·rw[cO h2]
    by_cases h3:(9223372036854775808:Int)<=val a
    ·rw[aR h3,no _ (by omega)];rfl
    ·rw[aN h3,wrap_i64 (n:=(val a:Int)),wrap_i64 (n:=0-(val a:Int)),yes _ (by omega) (by omega),hz,Int.zero_sub];rfl
  |false =>
   have hz:zv (false,a)=(val a:Int):=rfl;rw[bF,bF]
   by_cases h3:(9223372036854775808:Int)<=val a
   ·rw[aR h3,no _ (by omega)];rfl
   ·rw[aN h3,wrap_i64 (n:=(val a:Int)),yes _ (by omega) (by omega),hz];rfl
 ·rw[decide_eq_false h1,cJB,bT];have:aOQ (zv (b,a))=false:=by
   refine no _ ?_;have:=kL (b,a)
   try dsimp only at this
   omega
  rw[this];rfl
def aJ:dG:=orc1 nM sp
theorem ok:OK 185 aJ:=(dZ E aF (aA Fits.ok aE) func185).oS rfl spec
end aGX
namespace uJ
def E:=mE [(37,Ff.aJ),(182,Rk.aJ),(183,mW.aJ),(184,aZE.aJ),(42,aAV.aJ),(185,aGX.aJ),(166,Is.aJ),(186,tA.aJ),(78,kJ.aJ),(187,gR.aJ)] 89 [] [(9,[0,2,3,5,8,10,13,14,57,58]),(4,[0,2,3,5,8,10])] []
def aF:=bd f142
theorem aU:Nk E aF:=nk
def L4 a b c d e f g h i:=nN E f142 aF 4 [bK a,bK b,bK c,bM 3 74 [bC d,gU e],bM 4 98 [bC f,sc (slice none 0 0),bC g,sc (slice none 0 0),cV h],bK i]
def L9 a b c d e f g h i j k l m n o:=nN E f142 aF 9 [bK a,bK b,bK c,bM 3 74 [bC d,gU e],bM 4 98 [bC f,sc (slice none 0 0),bC g,sc (slice none 0 0),cV h],bK i,bM 6 74 [bC j,gU k],bM 7 74 [bC l,gU m],bK n,bK o]
theorem start a b e c d:aG E f142 aF [D.s (sc (int i64 a)),D.agg [sc (bool b),ints u32 e],D.s (sc (int i64 c)),D.s (sc (int i64 d))]=letI A:=(↑(bl (val e)):Int);aO (cI e/\e.length<=4398046511104) (uJ.L4 a c d b e false false 0 (i64.wrap (i64.wrap (d+80)+if i64.wrap ((0:Int)-i64.wrap (A+c))>(0:Int)then i64.wrap ((0:Int)-i64.wrap (A+c))else(0:Int)))):=eJ aU
theorem kV a b c d e f g h i:L4 a b c d e f g h i=letI A:=zv (d,e);aO (dP (d,e)/\bl A.natAbs<=64/\((-1200:Int)<=b/\b<=1000)/\1<=i/\i<=134700) (aC (isNeg (k7 A b i)) fun j=>aC (dg (k7 A b i).natAbs) fun k=>letI C:=zv (j,k)%zv (isNeg 4,dg 4);aC (isNeg (y7 A b i)) fun m=>aC (dg (y7 A b i).natAbs) fun n=>letI B:=zv (m,n);aO (dP (m,n)/\zv (m,n)≠0/\(0<=i/\i<=140000)/\B.natAbs<=(2:Nat)^i.toNat) (aC (isNeg (Ed B i.toNat)) fun o=>aC (dg (Ed B i.toNat).natAbs) fun p=>aC (isNeg (Es B i.toNat)) fun q=>aC (dg (Es B i.toNat).natAbs) fun l=>aO ((-9223372036854775808:Int)<=(4:Int)/\(4:Int)<(9223372036854775808:Int)) (aO (dP (j,k)/\k.length<=268435456/\dP (isNeg 4,dg 4)/\isNeg 4=false/\(dg 4).length=1) (aC (isNeg C) fun r=>aC (dg C.natAbs) fun s=>aO (dP (r,s)) (aC (bif aGX.aOQ (zv (r,s))then zv (r,s)else(0:Int)) fun t=>uJ.L9 a b c d e f g h i o p q l t 0))))):=lJ aU
theorem aUZ a b c d e f g h i j k l m n o:L9 a b c d e f g h i j k l m n o=letI H:=int i64 i;letI G:=zv (l,m)+8;letI F:=zv (l,m)-8;letI C:=dP (l,m)/\(-9223372036854775808:Int)<=(8:Int)/\(8:Int)<(9223372036854775808:Int);letI B:=uJ.L4 a b c d e f g h (i64.wrap (i+i64.wrap (i64.wrap (i.tdiv 2)+64)));aD (decide (o<n)) (aO (dP (j,k)) (aC (isNeg (-zv (j,k))) fun p=>aC (dg (-zv (j,k)).natAbs) fun q=>uJ.L9 a b c d e f g h i l m p q n (i64.wrap (o+1)))) (aO (dP (j,k)/\(-9223372036854775808:Int)<=(8:Int)/\(8:Int)<(9223372036854775808:Int)) (aC (isNeg (zv (j,k)-8)) fun r=>aC (dg (zv (j,k)-8).natAbs) fun s=>aC (isNeg (zv (j,k)+8)) fun t=>aC (dg (zv (j,k)+8).natAbs) fun u=>letI I:=(r,s,t,u,i);aD (a==2) (aO C (aC (isNeg F) fun v=>aC (dg F.natAbs) fun w=>aC (isNeg G) fun x=>aC (dg G.natAbs) fun y=>aO (dP (v,w)/\dP (x,y)/\w.length<=134217728/\y.length<=134217728/\0<=c/\c<=134217728) (aC (kJ.Yi (zv (v,w)) (zv (x,y)) c) fun z=>aD z (some [D.agg [sc (bool v),ints u32 w,sc (bool x),ints u32 y,sc H]]) B))) (aD (a==3) (aO C (aC (isNeg F) fun aa=>aC (dg F.natAbs) fun ab=>aC (isNeg G) fun ac=>aC (dg G.natAbs) fun ad=>letI A:=gR.Uw (zv (kJ.nL I)) (zv (kJ.nH I)) (zv (kJ.nL (aa,ab,ac,ad,i))) (zv (kJ.nH (aa,ab,ac,ad,i))) I.snd.snd.snd.snd;aO (dP (aa,ab)/\dP (ac,ad)/\ab.length<=134217728/\ad.length<=134217728/\0<=c/\c<=134217728) (aC (kJ.Yi (zv (aa,ab)) (zv (ac,ad)) c) fun ae=>aD (!ae) B (aO ((dP (r,s)/\dP (t,u)/\dP (aa,ab)/\dP (ac,ad))/\(bl (zv (r,s)).natAbs<=500000/\bl (zv (t,u)).natAbs<=500000/\bl (zv (aa,ab)).natAbs<=500000/\bl (zv (ac,ad)).natAbs<=500000)/\(0<=i/\i<=500000)/\zv (aa,ab)≠0/\zv (ac,ad)≠0) (aC (isNeg A.fst) fun af=>aC (dg A.fst.natAbs) fun ag=>aC (isNeg A.snd) fun ah=>aC (dg A.snd.natAbs) fun ai=>aO (dP (af,ag)/\dP (ah,ai)/\ag.length<=134217728/\ai.length<=134217728/\0<=c/\c<=134217728) (aC (kJ.Yi (zv (af,ag)) (zv (ah,ai)) c) fun aj=>aD aj (some [D.agg [sc (bool af),ints u32 ag,sc (bool ah),ints u32 ai,sc H]]) B)))))) (aO (dP (r,s)/\dP (t,u)/\s.length<=134217728/\u.length<=134217728/\0<=c/\c<=134217728) (aC (kJ.Yi (zv (r,s)) (zv (t,u)) c) fun ak=>aD ak (some [D.agg [sc (bool r),ints u32 s,sc (bool t),ints u32 u,sc H]]) B))))):=lJ aU
def sp(fn:Int)(m:Bool×List Int)(e p:Int):Prop×List D:=((1<=fn/\fn<=3)/\dP m/\Up (zv m) e/\(1<=p/\p<=134000)/\q7 (zv m) e p<=134700,[tA.aTS (Ia fn (zv m) e (q7 (zv m) e p)).1 (Ia fn (zv m) e (q7 (zv m) e p)).2 (q7 (zv m) e p)])
theorem qK{v:Int}{n:Nat}(h:v.natAbs<=2^n):bl v.natAbs<=n+1:=dX.2 (cEC h (cEE (by decide) (cJG n)))
theorem tF{v o:Int}{n:Nat}(h:bl v.natAbs<=n)(ho:o.natAbs<=8):bl (v+o).natAbs<=n+5:=by
 refine bYC (fW (show _<=v.natAbs+8 by omega)) (bYC (qR _ _) ?_);have:bl 8=4:=rfl;omega
theorem aEA{a b:Int}{n:Nat}(hb:b≠0)(h:bl a.natAbs<=n):bl (fN.Va a b).natAbs<=n+2/\bl (oG.Dr a b).natAbs<=n+2:=by
 have k:∀x:Int,x.natAbs=a.natAbs->bl (fN.Va x b).natAbs<=n+2:=by
  intro x hx;have h1:=oG.aEB (a:=x) hb;rw[hx]at h1;refine bYC (fW h1) (bYC (qR _ _) ?_);have:bl 1=1:=rfl;omega
 refine⟨k a rfl,?_⟩;unfold oG.Dr;rw[cFM];exact k (-a) (cFM a)
theorem aTJ{a b c d q:Int}(ha:bl a.natAbs<=500000)(hb:bl b.natAbs<=500000)(q1:q<=500000)(c0:c≠0)(d0:d≠0):bl (gR.Uw a b c d q).1.natAbs<=1000002/\bl (gR.Uw a b c d q).2.natAbs<=1000002:=by
 have n:∀{z:Int},bl z.natAbs<=500000->bl (-z).natAbs<=500000:=fun h=>by rw[cFM];exact h
 have k:∀{a b c d:Int},bl a.natAbs<=500000->bl b.natAbs<=500000->c≠0->d≠0->bl (gR.aFM a b c d q).1.natAbs<=1000002/\bl (gR.aFM a b c d q).2.natAbs<=1000002:=by
  intro a b c d ha hb c0 d0;unfold gR.aFM;dsimp only;constructor
  ·cases isNeg a
   ·exact(aEA d0 (gR.vI ha q1)).1
   ·exact(aEA c0 (gR.vI ha q1)).1
  ·cases isNeg b
   ·exact(aEA c0 (gR.vI hb q1)).2
   ·exact(aEA d0 (gR.vI hb q1)).2
 unfold gR.Uw;cases isNeg c
 ·exact k ha hb c0 d0
 ·exact k (n hb) (n ha) (by omega) (by omega)
theorem step{fn e p q n x7 S C:Int}{m1 b5 b6:Bool}{m2:List Int}{j:Int}(hS:dP (isNeg S,dg S.natAbs))(hj:0<=j/\j<3)(h:j<n):L9 fn e p m1 m2 b5 b6 x7 q (isNeg S) (dg S.natAbs) (isNeg C) (dg C.natAbs) n j=L9 fn e p m1 m2 b5 b6 x7 q (isNeg C) (dg C.natAbs) (isNeg (-S)) (dg (-S).natAbs) n (j+1):=by
 rw[aUZ,aR h,gP hS,aB,aB,iX,wrap_i64]
theorem fin{fn e p q n x7 S C:Int}{m1 b5 b6:Bool}{m2:List Int}{k:Nat}(hS:bl S.natAbs<=k)(hC:bl C.natAbs<=k)(hk:k<=200000)(hp:0<=p/\p<=134217728)(hq:0<=q/\q<=500000)(hf:1<=fn/\fn<=3)(c0:C-8≠0)(d0:C+8≠0)
  (t2:fn≠1->kJ.Yi (C-8) (C+8) p=true) (t1:fn=1->kJ.Yi (S-8) (S+8) p=true) (t3:fn=3->kJ.Yi (gR.Uw (S-8) (S+8) (C-8) (C+8) q).1 (gR.Uw (S-8) (S+8) (C-8) (C+8) q).2 p=true) :
  L9 fn e p m1 m2 b5 b6 x7 q (isNeg S) (dg S.natAbs) (isNeg C) (dg C.natAbs) n n=some [tA.aTS (if fn=2 then(C-8,C+8)else if fn=3 then gR.Uw (S-8) (S+8) (C-8) (C+8) q else(S-8,S+8)).1 (if fn=2 then(C-8,C+8)else if fn=3 then gR.Uw (S-8) (S+8) (C-8) (C+8) q else(S-8,S+8)).2 q]:=by
 have kS:=dU hS (by omega);have kC:=dU hC (by omega);have sm:bl (S-8).natAbs<=k+5:=tF (o:=-8) hS (by decide);have bMP:bl (S+8).natAbs<=k+5:=tF hS (by decide);have cm:bl (C-8).natAbs<=k+5:=tF (o:=-8) hC (by decide);have cp:bl (C+8).natAbs<=k+5:=tF hC (by decide);have l1:=fD sm;have l2:=fD bMP;have l3:=fD cm;have l4:=fD cp;have eL:∀a b c d:Int,zv (kJ.nL (isNeg a,dg b.natAbs,isNeg c,dg d.natAbs,q))=zv (isNeg a,dg b.natAbs):=fun _ _ _ _=>rfl
 have eH:∀a b c d:Int,zv (kJ.nH (isNeg a,dg b.natAbs,isNeg c,dg d.natAbs,q))=zv (isNeg c,dg d.natAbs):=fun _ _ _ _=>rfl
 have zS:=dU sm (by omega);have bMK:=dU bMP (by omega);have zC:=dU cm (by omega);have bHC:=dU cp (by omega);rw[aUZ,aN (Int.lt_irrefl _),gP ⟨kS,by decide,by decide⟩];simp only[aB,iX,eL,eH]
 by_cases f2:fn=2
 ·rw[cL f2,gP ⟨kC,by decide,by decide⟩,gP ⟨zC,bHC,by omega,by omega,hp.1,hp.2⟩,t2 (by omega),bT,if_pos f2];rfl
 ·rw[cO f2,if_neg f2]
  by_cases f3:fn=3
  ·obtain⟨r1,r2⟩:=aTJ (a:=S-8) (b:=S+8) (c:=C-8) (d:=C+8) (q:=q) (by omega) (by omega) hq.2 c0 d0;have m1:=fD r1;have m2:=fD r2;rw[cL f3,gP ⟨kC,by decide,by decide⟩,gP ⟨zC,bHC,by omega,by omega,hp.1,hp.2⟩,t2 (by omega),bZH,bF,gP ⟨⟨zS,bMK,zC,bHC⟩,⟨by omega,by omega,by omega,by omega⟩,hq,c0,d0⟩,gP ⟨dU r1 (by omega),dU r2 (by omega),by omega,by omega,hp.1,hp.2⟩,t3 f3,bT,if_pos f3];rfl
  ·rw[cO f3,gP ⟨zS,bMK,by omega,by omega,hp.1,hp.2⟩,t1 (by omega),bT,if_neg f3];rfl
theorem spec:Ud E f142 aF (pN .i64) nM (pN .i64) (pN .i64) sp:=by
 rintro fn m e p ⟨hf,hm,hd,⟨p0,p1⟩,hq⟩;refine(start fn m.1 m.2 e p).trans ?_;have ha:val m.2=(zv m).natAbs:=(kL m).symm;have bJH:zv (m.1,m.2)=zv m:=rfl;have bm:bl (zv m).natAbs<=53:=dX.2 (by have:=hd.z1;have:(2:Nat)^53=9007199254740992:=rfl;omega);have e0:=hd.e0;have e1:=hd.e1;have len:=hm.len;have hQ:q7 (zv m) e p=p+80+(if -(((bl (zv m).natAbs:Nat):Int)+e)>0 then -(((bl (zv m).natAbs:Nat):Int)+e)else 0):=rfl;have wq:i64.wrap (i64.wrap (p+80)+if i64.wrap (0-i64.wrap (((bl (zv m).natAbs:Nat):Int)+e))>0 then i64.wrap (0-i64.wrap (((bl (zv m).natAbs:Nat):Int)+e))else 0)=q7 (zv m) e p:=by
  rw[wrap_i64 (n:=((bl (zv m).natAbs:Nat):Int)+e) (by omega) (by omega),wrap_i64 (n:=0-(((bl (zv m).natAbs:Nat):Int)+e)) (by omega) (by omega),wrap_i64 (n:=p+80),hQ,show 0-(((bl (zv m).natAbs:Nat):Int)+e)=-(((bl (zv m).natAbs:Nat):Int)+e) by omega];refine wrap_i64 ?_ ?_ <;> (split <;> omega)
 have bHH:81<=q7 (zv m) e p:=by rw[hQ];split <;> omega
 have N:=Kg (fn:=fn) hd p0 rfl hq hf;unfold sp;dsimp only;rw[ha,wq,gP ⟨hm.1,by omega⟩];generalize q7 (zv m) e p=q at *;have kk:dP (isNeg (k7 (zv m) e q),dg (k7 (zv m) e q).natAbs)/\(dg (k7 (zv m) e q).natAbs).length<=268435456:=by
  have hb:bl (k7 (zv m) e q).natAbs<=300000:=by
   unfold k7;cases aJE (zv m) e q
   ·have t:t7 (zv m) e=(if((bl (zv m).natAbs:Nat):Int)+e>0 then((bl (zv m).natAbs:Nat):Int)+e else 0)+4:=rfl;have tb:4<=t7 (zv m) e/\t7 (zv m) e<=1068:=by rw[t];split <;> omega
    have F0:=(cH.Cp (g:=(q+t7 (zv m) e).toNat) (by omega)).2;refine bYC (fW (Rk.aKD (by omega))) (bYC (qR _ _) ?_);have h1:bl (x7 (zv m) e q).natAbs<=64+137000:=Rk.aTH (n:=137000) (by omega) (by omega);have h2:bl (x7 (zv m) e q*2).natAbs<=137100:=by
     rw[cDE];refine bYC (nC _ _) ?_;show bl _+bl 2<=_;have:bl 2=2:=rfl;omega
    have:bl 1=1:=rfl;omega
   ·exact cCR _
  have:=fD hb;exact⟨dU hb (by omega),by omega⟩
 have ky:dP (isNeg (y7 (zv m) e q),dg (y7 (zv m) e q).natAbs):=dU (qK N.yb) (by omega);have v4:zv (isNeg 4,dg 4)=4:=iX 4;have l4:(dg 4).length=1:=by have h1:(dg 4).length<=1:=cU (by decide);have:=fT (n:=4);omega
 have k4:dP (isNeg 4,dg 4):=pV (z:=4) (by show(dg 4).length<=_;omega);have r4:0<=k7 (zv m) e q%4/\k7 (zv m) e q%4<4:=by omega
 have kr:dP (isNeg (k7 (zv m) e q%4),dg (k7 (zv m) e q%4).natAbs):=dU (k:=3) (dX.2 (by have:(2:Nat)^3=8:=rfl;omega)) (by decide);have iI:aGX.aOQ (k7 (zv m) e q%4)=true:=by unfold aGX.aOQ;rw[decide_eq_true (by omega),decide_eq_true (by omega)];rfl
 rw[kV];simp only[bJH,aB,iX,v4,iI,cond_true];rw[gP ⟨hm,by omega,⟨by omega,by omega⟩,by omega,by omega⟩,gP ⟨ky,N.y0,⟨by omega,by omega⟩,N.yb⟩,gP ⟨by decide,by decide⟩,gP ⟨kk.1,kk.2,k4,fH.2 (by decide),l4⟩,gP kr];obtain⟨S,hS⟩:∃S,S=Ed (y7 (zv m) e q) q.toNat:=⟨_,rfl⟩;obtain⟨C,hC⟩:∃C,C=Es (y7 (zv m) e q) q.toNat:=⟨_,rfl⟩;have eS:vS (zv m) e q=aVT (k7 (zv m) e q) S C:=by rw[hS,hC];rfl
 have eC:vC (zv m) e q=aVV (k7 (zv m) e q) S C:=by rw[hS,hC];rfl
 rw[<-hS,<-hC];have sb:=N.sb;have cb:=N.cb;have F:=fin (fn:=fn) (e:=e) (p:=p) (q:=q) (n:=k7 (zv m) e q%4) (x7:=0) (S:=vS (zv m) e q) (C:=vC (zv m) e q) (m1:=m.1) (b5:=false) (b6:=false) (m2:=m.2) (k:=140000) (bYC (qK sb) (by omega)) (bYC (qK cb) (by omega)) (by decide) (by omega) (by omega) hf N.cl N.ch (fun _=>N.bAI)
  (fun h1=>by have:=N.th;unfold Ia at this;rw[bG,bG]at this;exact this) (fun h3=>by have:=N.th;unfold Ia at this;rw[bG,if_pos h3]at this;exact this)
 unfold Ia;refine Eq.trans ?_ F;have bS:bl S.natAbs<=140000/\bl C.natAbs<=140000:=by
  rw[eS]at sb;rw[eC]at cb;unfold aVT at sb;unfold aVV at cb;split at sb <;> rename_i c1
  ·rw[if_pos c1]at cb;exact⟨bYC (qK sb) (by omega),bYC (qK cb) (by omega)⟩
  ·rw[if_neg c1]at cb;split at sb <;> rename_i c2
   ·rw[if_pos c2,cFM]at cb;exact⟨bYC (qK cb) (by omega),bYC (qK sb) (by omega)⟩
   ·rw[if_neg c2]at cb;split at sb <;> rename_i c3
    ·rw[if_pos c3,cFM]at cb;rw[cFM]at sb;exact⟨bYC (qK sb) (by omega),bYC (qK cb) (by omega)⟩
    ·rw[if_neg c3]at cb;rw[cFM]at sb;exact⟨bYC (qK cb) (by omega),bYC (qK sb) (by omega)⟩
 have zS:=dU bS.1 (by omega);have zC:=dU bS.2 (by omega);have zN:dP (isNeg (-S),dg (-S).natAbs):=dU (by rw[cFM];exact bS.1) (by omega);have h4:k7 (zv m) e q%4=0\/k7 (zv m) e q%4=1\/k7 (zv m) e q%4=2\/k7 (zv m) e q%4=3:=by omega
 rw[eS,eC];unfold aVT aVV;rcases h4 with h |h |h |h
 ·rw[if_pos h,if_pos h,h]
 ·rw[if_neg (show ¬k7 (zv m) e q%4=0 by omega),if_pos h,if_neg (show ¬k7 (zv m) e q%4=0 by omega),if_pos h,h,step zS (by decide) (by decide)];rfl
 ·rw[if_neg (show ¬k7 (zv m) e q%4=0 by omega),if_neg (show ¬k7 (zv m) e q%4=1 by omega),if_pos h,if_neg (show ¬k7 (zv m) e q%4=0 by omega),if_neg (show ¬k7 (zv m) e q%4=1 by omega),if_pos h,h,step zS (by decide) (by decide),step zC (by decide) (by decide)];rfl
 ·rw[if_neg (show ¬k7 (zv m) e q%4=0 by omega),if_neg (show ¬k7 (zv m) e q%4=1 by omega),if_neg (show ¬k7 (zv m) e q%4=2 by omega),if_neg (show ¬k7 (zv m) e q%4=0 by omega),if_neg (show ¬k7 (zv m) e q%4=1 by omega),if_neg (show ¬k7 (zv m) e q%4=2 by omega),h,step zS (by decide) (by decide),step zC (by decide) (by decide),step zN (by decide) (by decide),Int.neg_neg];rfl
def aJ:dG:=orc4 (pN .i64) nM (pN .i64) (pN .i64) sp
theorem ok:OK 142 aJ:=(dZ E aF (aA Ff.ok (aA Rk.ok (aA mW.ok (aA aZE.ok (aA aAV.ok (aA aGX.ok (aA Is.ok (aA tA.ok (aA kJ.ok (aA gR.ok aE)))))))))) func142).aQH rfl spec
end uJ
namespace cD
def E:=mE [(141,dK.aJ),(142,uJ.aJ)] 19 [] [] []
def aF:=bd f101
theorem aU:Nk E aF:=nk
theorem start a b c:aG E f101 aF [D.s (sc (int i64 a)),D.s (sc (int u64 b)),D.s (sc (int i64 c))]=letI F:=(isNeg (dK.Ja b),dg (dK.Ja b).natAbs);letI C:=dK.Ko b;letI A:=zv F;letI B:=Ia a A C (q7 A C c);aO (0<=b/\b<18446744073709551616/\b%9223372036854775808<(9218868437227405312:Int)) (aO ((1<=a/\a<=3)/\dP F/\Up A C/\(1<=c/\c<=134000)/\q7 A C c<=134700) (aC (isNeg B.fst) fun d=>aC (dg B.fst.natAbs) fun e=>aC (isNeg B.snd) fun f=>aC (dg B.snd.natAbs) fun g=>aC (q7 A C c) fun h=>some [D.agg [sc (bool d),ints u32 e,sc (bool f),ints u32 g,sc (int i64 h)]])):=eJ aU
def Dm(fn b p:Int):Prop:=(1<=fn/\fn<=3)/\(0<=b/\b<18446744073709551616/\b%9223372036854775808<9218868437227405312)/\Up (dK.Ja b) (dK.Ko b)/\(1<=p/\p<=134000)/\q7 (dK.Ja b) (dK.Ko b) p<=134700
def qC(b p:Int):Int:=q7 (dK.Ja b) (dK.Ko b) p
def nO(fn b p:Int):Int×Int:=Ia fn (dK.Ja b) (dK.Ko b) (qC b p)
def sp(fn b p:Int):Prop×List D:=(Dm fn b p,[tA.aTS (nO fn b p).1 (nO fn b p).2 (qC b p)])
theorem spec:sR E f101 aF (pN .i64) (pN .u64) (pN .i64) sp:=by
 rintro fn b p ⟨hf,hb,hd,hp,hq⟩;refine(start fn b p).trans ((gP hb).trans ?_);have bm:bl (dK.Ja b).natAbs<=53:=dX.2 (by have:=hd.z1;have:(2:Nat)^53=9007199254740992:=rfl;omega);simp only[iX,aB];rw[gP ⟨hf,dU bm (by decide),hd,hp,hq⟩];rfl
def aJ:dG:=orc3 (pN .i64) (pN .u64) (pN .i64) sp
theorem ok:OK 101 aJ:=(dZ E aF (aA dK.ok (aA uJ.ok aE)) func101).Cq rfl spec
end cD
namespace Jm
def E:=mE [(74,Norm.aJ)] 32 [31] [(3,[0,3,4])] []
def aF:=bd f38
theorem aU:Nk E aF:=nk
def L3 a (b:Nat) (c:List Int) d:=nN E f38 aF 3 [iU a,(A.v (V.one (L.buf 1 b)),some { e:=(112:Nat),cont:=oI.ints u32 c }),bK d]
theorem start a:aG E f38 aF [D.s (ints u64 a)]=if(0:Int)<=(0:Int)/\0<=i64.wrap ((2:Int)*(a.length:Int))/\i64.wrap ((2:Int)*(a.length:Int))<=8796093022208 then Jm.L3 a 0 (bZK 0 (0:Int)) 0 else none:=eJ aU
theorem tK a b c d:L3 a b c d=letI F:=(a.length:Int);letI B:=a.getD d.toNat 0/(4294967296:Int);letI A:=fU BinOp.and u64 (a.getD d.toNat 0) 4294967295;letI C:=c.length+[u32.wrap A,u32.wrap B].length;aD (decide (d<F)) (if 0<=d/\d<F then if 0<=d/\d<F then if(0:Nat)<[u32.wrap A,u32.wrap B].length/\(C:Int)<=(8796093022208:Int)then Jm.L3 a C (c ++ [u32.wrap A,u32.wrap B]) (i64.wrap (d+1))else none else none else none) (aO (bN c/\c.length<=4398046511104) (some [D.own 112 u32 (dg (val c))])):=lJ aU
def sp(a:List Int):Prop×List D:=(M6.bN a/\a.length<=274877906944,[.own kW .u32 (dg (M6.val a))])
theorem Fx(i:Nat):(4294967296:Nat)^(2*i)=18446744073709551616^i:=by rw[Nat.pow_mul]
theorem L{a:List Int}(ha:M6.bN a)(hl:a.length<=274877906944):∀(r i m:Nat) (z:List Int),i+r=a.length->bN z->z.length=2*i->val z=M6.val (a.take i) ->
  L3 a m z i=some [.own kW .u32 (dg (M6.val a))]
 |0,i,m,z,hi,hz,bGC,hv=>by
  rw[M6.cA (by omega)]at hv;rw[tK,aN,gP ⟨hz,by omega⟩,hv]
 |r+1,i,m,z,hi,hz,bGC,hv=>by
  have g:=ha.get i;have w1:i64.wrap ((i:Int)+1)=((i+1:Nat):Int):=by rw[wrap_i64];omega
  have e1:u32.wrap (fU .and .u64 (a.getD i 0) 4294967295)=a.getD i 0%4294967296:=by rw[kM (by omega) (by omega),oJ (by omega)]
  have e2:u32.wrap (a.getD i 0/4294967296)=a.getD i 0/4294967296:=oJ (by omega);rw[tK,aR,aT,aT];simp only[cBF,e1,e2,w1,cAS,cAT];rw[aT];refine L ha hl r (i+1) _ _ (by omega) (lS.2 ⟨hz,jY.2 ⟨by omega,jY.2 ⟨by omega,lB⟩⟩⟩) (by simp;omega) ?_;rw[iE,M6.bR,hv,bGC,Fx];show _+_*((a.getD i 0%4294967296).toNat+4294967296*((a.getD i 0/4294967296).toNat+4294967296*0))=_;congr 2;omega
theorem spec:iD E f38 aF (pI .u64) sp:=by
 rintro a ⟨ha,hl⟩;refine(start a).trans ?_;rw[if_pos (by rw[wrap_i64 (n:=2*(a.length:Int))];omega)];exact L ha hl a.length 0 0 [] (by omega) lB rfl rfl
def aJ:dG:=orc1 (pI .u64) sp
theorem ok:OK 38 aJ:=(dZ E aF (aA Norm.ok aE) func38).oS rfl spec
end Jm
namespace Og
def E:=mE [(38,Jm.aJ),(80,Mk.aJ)] 9 [] [] []
def aF:=bd f41
theorem aU:Nk E aF:=nk
theorem start a b:aG E f41 aF [D.agg [sc (bool a),ints u64 b]]=letI A:=dg (M6.val b);aO (M6.bN b/\b.length<=274877906944) (aO (bN A/\A.length<=4398046511104) (some [D.agg [sc (bool (isNeg (zs a (val A)))),ints u32 (dg (zs a (val A)).natAbs)]])):=eJ aU
def sp(x:Bool×List Int):Prop×List D:=(M6.bN x.2/\x.2.length<=137438953472,[zD (wv x)])
theorem bHU{a:List Int}(h:M6.bN a)(hl:a.length<=274877906944):(dg (M6.val a)).length<=2*a.length:=by
 refine cU ?_;rw[Jm.Fx];exact M6.cR h
theorem spec:iD E f41 aF qN sp:=by
 intro x h;refine(start x.1 x.2).trans ((gP ⟨h.1,by have:=h.2;omega⟩).trans ?_);have:=bHU h.1 (by have:=h.2;omega);have h2:=h.2;rw[gP ⟨bZ _,by omega⟩,bD];rfl
def aJ:dG:=orc1 qN sp
theorem ok:OK 41 aJ:=(dZ E aF (aA Jm.ok (aA Mk.ok aE)) func41).oS rfl spec
end Og
namespace Oz
def E:=mE [(63,yI.aJ),(42,aAV.aJ),(37,Ff.aJ),(77,Oh.aJ),(76,Bu.aJ)] 70 [28,30,62,69] [(3,[1,3,4,6])] [3]
def aF:=bd f79
theorem aU:Nk E aF:=nk
def J3 a b c d e f:=lE E f79 aF 3 [bK a,bK b,bM 2 74 [bC c,gU d],bM 3 74 [bC e,gU f]]
theorem start a c b e f d:aG E f79 aF [D.agg [sc (bool a),ints u32 c],D.s (sc (int i64 b)),D.agg [sc (bool e),ints u32 f],D.s (sc (int i64 d))]=letI F:=dP (a,c);letI B:=cT (zv (a,c)) 0-cT (zv (e,f)) 0;letI C:=(isNeg (i64.wrap B),dg (i64.wrap B).natAbs);letI A:=aO F (aO (dP (e,f)) (aO ((-9223372036854775808:Int)<=i64.wrap B/\i64.wrap B<9223372036854775808) (aO (dP C) (some [D.s (sc (int i64 (cT (zv C) 0)))]))));aO F (aO (dP (e,f)) (aD (cT (zv (a,c)) 0 !=cT (zv (e,f)) 0) A (aO F (aD (cT (zv (a,c)) 0==(0:Int)) A (Oz.J3 b d a c e f))))):=eJ aU
theorem fB a b c d e f:J3 a b c d e f=letI F:=(↑(bl (val f)):Int);letI C:=(↑(bl (val d)):Int);letI B:=zv (e,f)*(2:Int)^(i64.wrap (b-a)).toNat;letI H:=(isNeg B,dg B.natAbs);letI A:=zv (c,d)*(2:Int)^(i64.wrap (a-b)).toNat;letI G:=(isNeg A,dg A.natAbs);aO (dP (c,d)) (aO (cI d/\d.length<=4398046511104) (aO (cI f/\f.length<=4398046511104) (aD (decide (i64.wrap (C+a)<i64.wrap (F+b))) (some [D.s (sc (int i64 (i64.wrap ((0:Int)-cT (zv (c,d)) 0))))]) (aD (decide (i64.wrap (F+b)<i64.wrap (C+a))) (some [D.s (sc (int i64 (cT (zv (c,d)) 0)))]) (aD (decide (b<a)) (aO (dP (c,d)/\i64.wrap (a-b)<=1099511627776) (aO (dP G/\dP (e,f)/\(dg A.natAbs).length<549755813888/\f.length<549755813888) (some [D.s (sc (int i64 (cT (zv G) (zv (e,f)))))]))) (aO (dP (e,f)/\i64.wrap (b-a)<=1099511627776) (aO (dP (c,d)/\dP H/\d.length<549755813888/\(dg B.natAbs).length<549755813888) (some [D.s (sc (int i64 (cT (zv (c,d)) (zv H))))])))))))):=cJ aU
def sp(m:Bool×List Int)(e:Int)(l:Bool×List Int)(f:Int):Prop×List D:=(dP m/\dP l/\m.2.length<=1048576/\l.2.length<=1048576/\(-16777216<=e/\e<=16777216)/\(-16777216<=f/\f<=16777216),[.s (.sc (.int .i64 (lR (zv m) e (zv l) f)))])
theorem Wn{m l:Int}{e f:Int}(h:(bl m.natAbs:Int)+e<bl l.natAbs+f)(hl:l≠0)(hs:cT m 0=cT l 0):lR m e l f=0-cT m 0:=by
 have jM:m.natAbs*2^(e-f).toNat<l.natAbs*2^(f-e).toNat:=by
  have h1:=wP m.natAbs;have h2:=Rg (n:=l.natAbs) (by omega);have h3:=oO (n:=l.natAbs) (by omega);have a1:m.natAbs*2^(e-f).toNat<2^(bl m.natAbs+(e-f).toNat):=by
   rw[cCH];exact cGJ h1 (cB)
  have a2:2^(bl l.natAbs-1+(f-e).toNat)<=l.natAbs*2^(f-e).toNat:=by
   rw[cCH];exact cBK _ h2
  have a3:2^(bl m.natAbs+(e-f).toNat)<=2^(bl l.natAbs-1+(f-e).toNat):=fM;omega
 unfold lR;have p1:(0:Int)<2^(e-f).toNat:=cAP (by omega);have p2:(0:Int)<2^(f-e).toNat:=cAP (by omega);have q1:(m*2^(e-f).toNat).natAbs=m.natAbs*2^(e-f).toNat:=by rw[cDE,cLP];rfl
 have q2:(l*2^(f-e).toNat).natAbs=l.natAbs*2^(f-e).toNat:=by rw[cDE,cLP];rfl
 rw[<-q1,<-q2]at jM;rcases cLH l 0 with h0 |h0 |h0
 ·have hm:m<0:=by
   unfold cT at hs;rw[if_pos h0]at hs;split at hs
   ·assumption
   ·split at hs <;> omega
  have b1:=cHR hm p1;have b2:=cHR h0 p2;unfold cT;rw[bG,aT,if_pos hm];rfl
 ·exact(hl h0).elim
 ·have hm:0<m:=by
   unfold cT at hs;rw[if_neg (show ¬l<0 by omega),if_pos h0]at hs;split at hs
   ·omega
   ·split at hs
    ·assumption
    ·omega
  have b1:=cHQ hm p1;have b2:=cHQ h0 p2;unfold cT;rw[aT,bG,if_pos hm];rfl
theorem aGR(a b:Int):cT b a=0-cT a b:=by unfold cT;split <;> split <;> (try split) <;> (try split) <;> omega
theorem My(m e l f:Int):lR l f m e=0-lR m e l f:=by unfold lR;exact aGR _ _
theorem Vp{m e l f:Int}(h:cT m 0≠cT l 0\/cT m 0=0):lR m e l f=cT (cT m 0-cT l 0) 0:=by
 unfold lR;have p1:(0:Int)<2^(e-f).toNat:=cAP (by omega);have p2:(0:Int)<2^(f-e).toNat:=cAP (by omega);have key:∀(x p:Int),0<p->(x<0/\x*p<0)\/(x=0/\x*p=0)\/(0<x/\0<x*p):=by
  intro x p hp;rcases cLH x 0 with h |h |h
  ·exact .inl ⟨h,cHR h hp⟩
  ·exact .inr (.inl ⟨h,by rw[h,Int.zero_mul]⟩)
  ·exact .inr (.inr ⟨h,cHQ h hp⟩)
 have k1:=key m _ p1;have k2:=key l _ p2;generalize m*2^(e-f).toNat=u at *;generalize l*2^(f-e).toNat=v at *;have c1:(m<0/\cT m 0=-1)\/(m=0/\cT m 0=0)\/(0<m/\cT m 0=1):=by unfold cT;split <;> (try split) <;> omega
 have c2:(l<0/\cT l 0=-1)\/(l=0/\cT l 0=0)\/(0<l/\cT l 0=1):=by unfold cT;split <;> (try split) <;> omega
 generalize cT m 0=s at *;generalize cT l 0=t at *;unfold cT;split <;> split <;> (try split) <;> (try split) <;> omega
theorem J{m l:Bool×List Int}{e f:Int}(hm:dP m)(hl:dP l)(h1:m.2.length<=1048576)(h2:l.2.length<=1048576)(h3:-16777216<=e/\e<=16777216)(h4:-16777216<=f/\f<=16777216)(hs:cT (zv m) 0=cT (zv l) 0)(hz:cT (zv m) 0≠0) :
  J3 e f m.1 m.2 l.1 l.2=some [D.s (.sc (.int .i64 (lR (zv m) e (zv l) f)))]:=by
 have b1:bl (val m.2)<=32*1048576:=Ig hm.1.gT (by omega);have b2:bl (val l.2)<=32*1048576:=Ig hl.1.gT (by omega);have em:(m.1,m.2)=m:=rfl;have el:(l.1,l.2)=l:=rfl;have aXF:zv m≠0:=fun h=>hz (by rw[h];rfl)
 have aRC:zv l≠0:=fun h=>hz (by rw[hs,h];rfl)
 rw[fB,em,el,gP hm,gP ⟨hm.1,by omega⟩,gP ⟨hl.1,by omega⟩,wrap_i64 (n:=(bl (val m.2):Int)+e),wrap_i64 (n:=(bl (val l.2):Int)+f)]
 by_cases c1:(bl (val m.2):Int)+e<bl (val l.2)+f
 ·rw[aR c1,Wn (by rw[kL,kL];exact c1) aRC hs,wrap_i64 ?_ ?_]
  ·unfold cT;split <;> (try split) <;> omega
  ·unfold cT;split <;> (try split) <;> omega
 ·rw[aN c1]
  by_cases c2:(bl (val l.2):Int)+f<bl (val m.2)+e
  ·rw[aR c2,My,Wn (by rw[kL,kL];exact c2) aXF hs.symm,<-hs];congr 5;omega
  ·rw[aN c2];have sh:∀(x:Bool×List Int) (k:Int),dP x->x.2.length<=1048576->k<=33554432->(dg (zv x*2^k.toNat).natAbs).length<549755813888:=by
    intro x k hx Dj hk;have e1:(zv x*2^k.toNat).natAbs=val x.2*2^k.toNat:=by rw[cDE,kL,cLP];rfl
    have:=zE (val x.2) k.toNat;rw[kX hx.1]at this;rw[e1];omega
   by_cases c3:f<e
   ·have s1:=sh m (e-f) hm h1 (by omega);rw[aR c3,wrap_i64 (n:=e-f),gP ⟨hm,by omega⟩,gP ⟨pV (by omega),hl,s1,by omega⟩,iX];unfold lR;rw[show(f-e).toNat=0 from by omega,Int.pow_zero,cKO]
   ·have s1:=sh l (f-e) hl h2 (by omega);rw[aN c3,wrap_i64 (n:=f-e),gP ⟨hl,by omega⟩,gP ⟨hm,pV (by omega),by omega,s1⟩,iX];unfold lR;rw[show(e-f).toNat=0 from by omega,Int.pow_zero,cKO]
theorem spec:Ud E f79 aF nM (pN .i64) nM (pN .i64) sp:=by
 intro m e l f h;refine(start m.1 m.2 e l.1 l.2 f).trans ?_;obtain⟨hm,hl,h1,h2,h3,h4⟩:=h;have em:(m.1,m.2)=m:=rfl;have el:(l.1,l.2)=l:=rfl;have c1:-1<=cT (zv m) 0/\cT (zv m) 0<=1:=by unfold cT;split <;> (try split) <;> omega
 have c2:-1<=cT (zv l) 0/\cT (zv l) 0<=1:=by unfold cT;split <;> (try split) <;> omega
 have ew:i64.wrap (cT (zv m) 0-cT (zv l) 0)=cT (zv m) 0-cT (zv l) 0:=wrap_i64;have hz:dP (isNeg (cT (zv m) 0-cT (zv l) 0),dg (cT (zv m) 0-cT (zv l) 0).natAbs):=Ve (k:=2) (by omega) (by omega);rw[em,el,gP hm,gP hl,ew,gP hm,gP hl,gP ⟨by omega,by omega⟩,gP hz,iX];show _=some [D.s (.sc (.int .i64 (lR (zv m) e (zv l) f)))]
 by_cases n1:cT (zv m) 0=cT (zv l) 0
 ·rw[gG n1,gP hm]
  by_cases n2:cT (zv m) 0=0
  ·rw[cL n2,Vp (.inr n2)]
  ·rw[cO n2];exact J hm hl h1 h2 h3 h4 n1 n2
 ·rw[nD n1,Vp (.inl n1)]
def aJ:dG:=orc4 nM (pN .i64) nM (pN .i64) sp
theorem ok:OK 79 aJ:=(dZ E aF (aA yI.ok (aA aAV.ok (aA Ff.ok (aA Oh.ok (aA Bu.ok aE))))) func79).aQH rfl spec
end Oz
namespace sF
def E:=mE [(41,Og.aJ),(79,Oz.aJ)] 29 [] [] []
def aF:=bd f124
theorem aU:Nk E aF:=nk
theorem start a b c d e f g h:aG E f124 aF [D.agg [sc (bool a),ints u32 b,sc (bool c),ints u32 d,sc (int i64 e)],D.agg [sc (bool f),ints u64 g,sc (int i64 h)]]=letI A:=i64.wrap ((0:Int)-e);aO (M6.bN g/\g.length<=137438953472) (aC (isNeg (wv (f,g))) fun i=>aC (dg (wv (f,g)).natAbs) fun j=>aO (dP (i,j)/\dP (a,b)/\j.length<=1048576/\b.length<=1048576/\((-16777216:Int)<=h/\h<=16777216)/\(-16777216:Int)<=i64.wrap ((0:Int)-e)/\i64.wrap ((0:Int)-e)<=16777216) (aC (lR (zv (i,j)) h (zv (a,b)) A) fun k=>aD (decide (k<0)) (some [D.s (sc (int i64 (-1:Int)))]) (aO (dP (i,j)/\dP (c,d)/\j.length<=1048576/\d.length<=1048576/\((-16777216:Int)<=h/\h<=16777216)/\(-16777216:Int)<=i64.wrap ((0:Int)-e)/\i64.wrap ((0:Int)-e)<=16777216) (aC (lR (zv (i,j)) h (zv (c,d)) A) fun l=>aD (decide (0<l)) (some [D.s (sc (int i64 1))]) (some [D.s (sc (int i64 0))]))))):=eJ aU
open kJ in
def Vr (l h q:Int) (d:Int×Int):Int:=if lR d.1 d.2 l (-q)<0 then -1 else if 0<lR d.1 d.2 h (-q)then 1 else 0
open kJ in
def sp (s:aZO) (d:iW):Prop×List D:=(dP (nL s)/\dP (nH s)/\(nL s).2.length<=1048576/\(nH s).2.length<=1048576/\(0<=s.2.2.2.2/\s.2.2.2.2<=16777216)/\aW d,[.s (.sc (.int .i64 (Vr (zv (nL s)) (zv (nH s)) s.2.2.2.2 (dv d))))])
open kJ in
theorem spec (s:aZO) (d:iW) (h:(sp s d).1):aG E f124 aF [(pG (.pair sB (.pair (sI .u32) (.pair sB (.pair (sI .u32) (sN .i64)))))).put s,jE.put d]=some (sp s d).2:=by
 obtain⟨k1,k2,l1,l2,⟨q0,q1⟩,hd⟩:=h;have e1:(s.1,s.2.1)=nL s:=rfl;have e2:(s.2.2.1,s.2.2.2.1)=nH s:=rfl;have e3:wv (d.1,d.2.1)=(dv d).1:=rfl;have e4:d.2.2=(dv d).2:=rfl;have bd:=hd.rB.1;have ed:=hd.rB.2.1;have ld:=fD bd;have len:=hd.len;have wn:i64.wrap (0-s.2.2.2.2)=-s.2.2.2.2:=by rw[wrap_i64];omega
 have kd:=dU bd (by decide);refine(start s.1 s.2.1 s.2.2.1 s.2.2.2.1 s.2.2.2.2 d.1 d.2.1 d.2.2).trans ?_;simp only[aB,iX,e1,e2,e3,e4,wn];rw[gP ⟨hd.Fh.gT,by omega⟩,gP ⟨kd,k1,by omega,l1,by omega,by omega,by omega⟩];unfold sp Vr;dsimp only
 by_cases c1:lR (dv d).1 (dv d).2 (zv (nL s)) (-s.2.2.2.2)<0
 ·rw[aR c1,if_pos c1]
 ·rw[aN c1,if_neg c1,gP ⟨kd,k2,by omega,l2,by omega,by omega,by omega⟩]
  by_cases c2:0<lR (dv d).1 (dv d).2 (zv (nH s)) (-s.2.2.2.2)
  ·rw[aR c2,if_pos c2]
  ·rw[aN c2,if_neg c2]
def aJ:dG:=orc2 (pG (.pair sB (.pair (sI .u32) (.pair sB (.pair (sI .u32) (sN .i64)))))) jE sp
theorem ok:OK 124 aJ:=(dZ E aF (aA Og.ok (aA Oz.ok aE)) func124).jR rfl spec
end sF
namespace wB
def E:=mE [(101,cD.aJ),(124,sF.aJ)] 46 [] [(2,[0,1,4,7,8,11])] []
def aF:=bd f83
theorem aU:Nk E aF:=nk
def L2 a b c d e f g h i j:=nN E f83 aF 2 [bK a,dM b,bK c,bM 3 35 [bC d,eF e,cV f],bM 4 35 [bC g,eF h,cV i],bK j]
theorem start a b c d f g h i e:aG E f83 aF [D.s (sc (int i64 a)),D.s (sc (int u64 b)),D.agg [sc (bool c),ints u64 d,sc (int i64 f)],D.agg [sc (bool g),ints u64 h,sc (int i64 i)],D.s (sc (int i64 e))]=wB.L2 a b e c d f g h i (i64.wrap (e+100)):=eJ aU
theorem lG a b c d e f g h i j:L2 a b c d e f g h i j=letI F:=some [D.s (sc (bool true))];letI C:=some [D.s (sc (bool false))];letI B:=wB.L2 a b c d e f g h i (i64.wrap (j*2));letI A:=cD.nO a b j;aD (decide (j<=i64.wrap ((8:Int)*i64.wrap (c+100)))) (aO (cD.Dm a b j) (aC (isNeg A.fst) fun k=>aC (dg A.fst.natAbs) fun l=>aC (isNeg A.snd) fun m=>aC (dg A.snd.natAbs) fun n=>aO (dP (k,l)/\dP (m,n)/\l.length<=1048576/\n.length<=1048576/\(0<=cD.qC b j/\cD.qC b j<=16777216)/\aW (d,e,f)) (aC (sF.Vr (zv (k,l)) (zv (m,n)) (cD.qC b j) (dv (d,e,f))) fun o=>aO (dP (k,l)/\dP (m,n)/\l.length<=1048576/\n.length<=1048576/\(0<=cD.qC b j/\cD.qC b j<=16777216)/\aW (g,h,i)) (aC (sF.Vr (zv (k,l)) (zv (m,n)) (cD.qC b j) (dv (g,h,i))) fun p=>aD (decide (0<o)) C (aD (decide (p<0)) C (aD (decide (o<0)) (aD (decide (0<p)) F B) B)))))) F:=lJ aU
def Jc(fn b:Int)(l h:Int×Int)(p:Int):Nat->Int->Prop
 |0,q=>8*(p+100)<q
 |f+1,q=>8*(p+100)<q\/(cD.Dm fn b q/\sF.Vr (cD.nO fn b q).1 (cD.nO fn b q).2 (cD.qC b q) l<=0/\0<=sF.Vr (cD.nO fn b q).1 (cD.nO fn b q).2 (cD.qC b q) h /\
   ((sF.Vr (cD.nO fn b q).1 (cD.nO fn b q).2 (cD.qC b q) l<0/\0<sF.Vr (cD.nO fn b q).1 (cD.nO fn b q).2 (cD.qC b q) h)\/Jc fn b l h p f (q*2)))
theorem aII{fn b p:Int}(h:cD.Dm fn b p):bl (cD.nO fn b p).1.natAbs<=1000002/\bl (cD.nO fn b p).2.natAbs<=1000002/\0<=cD.qC b p/\cD.qC b p<=134700:=by
 obtain⟨hf,hb,hd,⟨p0,p1⟩,hq⟩:=h;have N:=Kg (fn:=fn) hd p0 rfl hq hf;have q0:0<=cD.qC b p:=by unfold cD.qC q7;split <;> omega
 have eq:cD.qC b p=q7 (dK.Ja b) (dK.Ko b) p:=rfl;unfold cD.nO;rw[<-eq]at N hq;refine⟨?_,?_,q0,hq⟩
 all_goals
  have s1:=uJ.tF (o:=8) (uJ.qK N.sb) (by decide);have s2:=uJ.tF (o:=-8) (uJ.qK N.sb) (by decide);have s3:=uJ.tF (o:=8) (uJ.qK N.cb) (by decide);have s4:=uJ.tF (o:=-8) (uJ.qK N.cb) (by decide);have r:=uJ.aTJ (a:=vS (dK.Ja b) (dK.Ko b) (cD.qC b p)-8) (b:=vS (dK.Ja b) (dK.Ko b) (cD.qC b p)+8) (q:=cD.qC b p) (bYC s2 (by omega)) (bYC s1 (by omega)) (by omega) N.cl N.ch;unfold Ia;split
  ·first |exact bYC s4 (by omega) |exact bYC s3 (by omega)
  ·split
   ·first |exact r.1 |exact r.2
   ·first |exact bYC s2 (by omega) |exact bYC s1 (by omega)
def sp(fn b:Int)(l h:iW)(p:Int):Prop×List D:=(aW l/\aW h/\(1<=p/\p<=66000)/\Jc fn b (dv l) (dv h) p 5 (p+100),[.s (.sc (.bool true))])
theorem L{fn b p:Int}{l h:iW}(hl:aW l)(hh:aW h)(hp:1<=p/\p<=66000):∀(f:Nat) (q:Int),0<=q->q<=2000000->Jc fn b (dv l) (dv h) p f q->L2 fn b p l.1 l.2.1 l.2.2 h.1 h.2.1 h.2.2 q=some [.s (.sc (.bool true))]:=by
 have w1:i64.wrap (8*i64.wrap (p+100))=8*(p+100):=by rw[wrap_i64 (n:=p+100),wrap_i64]
 have el:dv (l.1,l.2.1,l.2.2)=dv l:=rfl;have eh:dv (h.1,h.2.1,h.2.2)=dv h:=rfl;intro f
 induction f with
 |zero =>
  intro q q0 q1 hk;have hk:8*(p+100)<q:=hk;rw[lG,w1,aN]
 |succ f ih =>
  intro q q0 q1 hk;rw[lG,w1]
  by_cases c:q<=8*(p+100)
  ·rcases hk with hk |⟨ok,a1,a2,a3⟩
   ·omega
   ·obtain⟨b1,b2,q2,q3⟩:=aII ok;have l1:=fD b1;have l2:=fD b2;have z1:=dU b1 (by decide);have z2:=dU b2 (by decide);have wq:i64.wrap (q*2)=q*2:=wrap_i64;rw[aR c,gP ok];simp only[aB,iX,el,eh,wq];rw[gP ⟨z1,z2,by omega,by omega,⟨by omega,by omega⟩,hl⟩,gP ⟨z1,z2,by omega,by omega,⟨by omega,by omega⟩,hh⟩,aN,aN];rcases a3 with ⟨d1,d2⟩ |a3
    ·rw[aR d1,aR d2]
    ·have r:=ih (q*2) (by omega) (by omega) a3
     by_cases d1:sF.Vr (cD.nO fn b q).1 (cD.nO fn b q).2 (cD.qC b q) (dv l)<0
     ·rw[aR d1]
      by_cases d2:0<sF.Vr (cD.nO fn b q).1 (cD.nO fn b q).2 (cD.qC b q) (dv h)
      ·rw[aR d2]
      ·rw[aN d2];exact r
     ·rw[aN d1];exact r
  ·rw[aN c]
theorem spec(fn b:Int)(l h:iW)(p:Int)(hs:(sp fn b l h p).1):aG E f83 aF [(pN .i64).put fn,(pN .u64).put b,jE.put l,jE.put h,(pN .i64).put p]=some (sp fn b l h p).2:=by
 obtain⟨hl,hh,hp,hk⟩:=hs;refine(start fn b l.1 l.2.1 l.2.2 h.1 h.2.1 h.2.2 p).trans ?_;rw[wrap_i64 (n:=p+100)];exact L hl hh hp 5 (p+100) (by omega) (by omega) hk
def aJ:dG:=orc5 (pN .i64) (pN .u64) jE jE (pN .i64) sp
theorem ok:OK 83 aJ:=(dZ E aF (aA cD.ok (aA sF.ok aE)) func83).bCB rfl spec
end wB
end W
namespace M
open Go AI W
theorem Mh{b:Int}(hb:0<=b/\b<18446744073709551616):dK.Ja b=gO.wH 64 b:=by
 have e1:gI.tD (cE.sG 64)=4503599627370496:=rfl;have e3:jH.kF (cE.sG 64)=9223372036854775808:=rfl;have e5:kH (kf true)=4503599627370496:=rfl;unfold dK.Ja gO.wH Iz kO.Gc;rw[e1,e3,e5];congr 1;split <;> split <;> omega
theorem Mi{b:Int}(hb:0<=b/\b<18446744073709551616):dK.Ko b=gO.wZ 64 b:=by
 have e1:gI.tD (cE.sG 64)=4503599627370496:=rfl;have e3:jH.kF (cE.sG 64)=9223372036854775808:=rfl;have e4:(cE.sG 64).2.2.1=-1074:=rfl;have e5:kH (kf true)=4503599627370496:=rfl;unfold dK.Ko gO.wZ Vv kO.Ju;rw[e1,e3,e4,e5];split <;> omega
theorem Nt{b:Int}:bQ.Dr b=(if b%9223372036854775808=0 then 0 else if b%9223372036854775808<4503599627370496 then 1 else if b%9223372036854775808<9218868437227405312 then 2 else if b%9223372036854775808=9218868437227405312 then 3 else 4):=by
 have hp:gX.lO 64 b=true:=rfl;have e1:gI.tD (cE.sG 64)=4503599627370496:=rfl;have e2:yO.Di (cE.sG 64)=9218868437227405312:=rfl;have e3:jH.kF (cE.sG 64)=9223372036854775808:=rfl;unfold bQ.Dr Af.zM;rw[hp,e1,e2,cond_true]
theorem tP{fn b p:Int}:bQ.pP fn b p=if fn<1 then 1 else if 3<fn then 1 else if p<1 then 1 else if 66000<p then 1 else if b%9223372036854775808<9218868437227405312 then 0 else 6:=by
 have hp:gX.lO 64 b=true:=rfl;unfold bQ.pP;rw[Nt,hp,cond_true]
 repeat' (split <;> try rfl)
 all_goals omega
theorem Lg{fn b p:Int}(h:bQ.pP fn b p=0):bQ.Yh fn b p=(b%9223372036854775808==0):=by
 rw[tP]at h;unfold bQ.Yh;rw[Nt]
 by_cases c1:fn<1
 ·rw[if_pos c1]at h;omega
 ·rw[if_neg c1]at h ⊢
  by_cases c2:3<fn
  ·rw[if_pos c2]at h;omega
  ·rw[if_neg c2]at h ⊢
   by_cases c3:p<1
   ·rw[if_pos c3]at h;omega
   ·rw[if_neg c3]at h ⊢
    by_cases c4:66000<p
    ·rw[if_pos c4]at h;omega
    ·rw[if_neg c4]at h ⊢
     by_cases c5:b%9223372036854775808=0
     ·rw[if_pos c5,beq_iff_eq.2 c5];rfl
     ·rw[if_neg c5,beq_eq_false_iff_ne.2 c5]
      repeat' (split <;> try rfl)
def Real(b:Int):Prop:=(0<=b/\b<18446744073709551616)/\bQ.Dr b≠0/\bQ.Dr b≠3/\bQ.Dr b≠4
theorem Real.n{b:Int}(h:Real b):Up (gO.wH 64 b) (gO.wZ 64 b):=(aI.aAF h.1 h.2.1 h.2.2.1 h.2.2.2).2.2
theorem Real.x{b:Int}(h:Real b):aBI (aQ.kQ b):=aMJ h.n
theorem Real.q{b:Int}(_h:Real b):R.qz (aQ.kQ b)=R.qz (gO.wH 64 b,gO.wZ 64 b):=rL _ _
theorem Rr{fn b p:Int}(h:Real b)(hf:1<=fn/\fn<=3)(hp:1<=p/\p<=133500):cD.Dm fn b p:=by
 have n:=h.n;have bGU:=oO (n:=(gO.wH 64 b).natAbs) (by have:=n.z0;omega);have e0:=n.e0;obtain⟨hb,c0,c3,c4⟩:=h;have hm:b%9223372036854775808<9218868437227405312:=by
  rw[Nt]at c3 c4
  by_cases h1:b%9223372036854775808<9218868437227405312
  ·exact h1
  ·rw[bG,bG,if_neg h1]at c3 c4;split at c3
   ·omega
   ·split at c4 <;> omega
 refine⟨hf,⟨hb.1,hb.2,hm⟩,?_,⟨hp.1,by omega⟩,?_⟩
 ·rw[Mh hb,Mi hb];exact n
 ·rw[Mh hb,Mi hb];unfold q7;split <;> omega
theorem Ku{m e l f:Int}:0<lR m e l f↔R.qz (l,f)<R.qz (m,e):=by
 have h:=R.aCT (p:=(m,e)) (q:=(l,f)) (g:=if e<=f then e else f) (by split <;> omega) (by split <;> (dsimp only;omega));have e1:(e-(if e<=f then e else f)).toNat=(e-f).toNat:=by split <;> omega
 have e2:(f-(if e<=f then e else f)).toNat=(f-e).toNat:=by split <;> omega
 dsimp only at h;rw[e1,e2]at h;have c1:((2^(e-f).toNat:Nat):Int)=(2:Int)^(e-f).toNat:=by rw[cHH];rfl
 have c2:((2^(f-e).toNat:Nat):Int)=(2:Int)^(f-e).toNat:=by rw[cHH];rfl
 rw[c1,c2]at h;unfold lR cT;constructor
 ·intro hh;refine Rat.not_le.1 fun hq=>?_
  have:=h.1 hq;rw[if_neg (by
   intro hc;rw[if_pos hc]at hh;omega)]at hh
  rw[bG]at hh;omega
 ·intro hh;have:¬m*2^(e-f).toNat<=l*2^(f-e).toNat:=fun hc=>Rat.not_le.2 hh (h.2 hc)
  rw[bG,aT];decide
theorem Tb{m e l f:Int}:lR m e l f<0↔R.qz (m,e)<R.qz (l,f):=by
 rw[<-Ku,Oz.My l f m e];omega
theorem aWF{a:Rat}{q:Int}:a*R.pz (-q)*R.pz q=a:=by rw[cEU,cIU (R.pz (-q)),R.Ma];grind
theorem bWT{P V L m t Z:Rat}(hP:0<P)(h:L+m<=V)(m0:0<=m)(hi:P*V+1<=t)(e:Z*P=t)(hc:Z<L):False:=by
 have a:=R.aM (cCJ hP) (show 0<=V-L by grind);have b:=R.aM (cCJ hP) (show 0<=L-Z by grind);grind
theorem bWS{P V H m t Z:Rat}(hP:0<P)(h:V+m<=H)(m0:0<=m)(lo:t+1<=P*V)(e:Z*P=t)(hc:H<Z):False:=by
 have a:=R.aM (cCJ hP) (show 0<=H-V by grind);have b:=R.aM (cCJ hP) (show 0<=Z-H by grind);grind
theorem bWR{P V L m t1 t2 Z:Rat}(hP:0<P)(h:L+m<=V)(w:t2-t1<P*m)(hi:P*V+1<=t2)(e:Z*P=t1):L<Z:=by
 refine Rat.not_le.1 fun hc=>?_
 have a:=R.aM (cCJ hP) (show 0<=V-L-m by grind);have b:=R.aM (cCJ hP) (show 0<=L-Z by grind);grind
theorem bWQ{P V H m t1 t2 Z:Rat}(hP:0<P)(h:V+m<=H)(w:t2-t1<P*m)(lo:t1+1<=P*V)(e:Z*P=t2):Z<H:=by
 refine Rat.not_le.1 fun hc=>?_
 have a:=R.aM (cCJ hP) (show 0<=H-V-m by grind);have b:=R.aM (cCJ hP) (show 0<=Z-H by grind);grind
theorem bWP{Q q m t1 t2 A K:Rat}(hQ:0<Q)(hq:0<q)(wd:(t2-t1)*q<=Q*A)(vh:A<=K)(h:K<q*m):t2-t1<Q*m:=by
 refine Rat.not_le.1 fun hc=>?_
 have a:=R.aM (cCJ hQ) (show 0<=K-A by grind);have b:=R.aM (cCJ hq) (show 0<=t2-t1-Q*m by grind);have c:0<Q*(q*m-K):=cCX hQ (by grind);grind
theorem aDN{fn b p q:Int}(h:Real b)(hf:1<=fn/\fn<=3)(hp:1<=p/\p<=66000)(hq:1<=q/\q<=133500) :
  sF.Vr (cD.nO fn b q).1 (cD.nO fn b q).2 (cD.qC b q) (eE fn (aQ.kQ b) p).1<=0/\0<=sF.Vr (cD.nO fn b q).1 (cD.nO fn b q).2 (cD.qC b q) (eE fn (aQ.kQ b) p).2 /\
  (2500<=p->2*p+200<=q->sF.Vr (cD.nO fn b q).1 (cD.nO fn b q).2 (cD.qC b q) (eE fn (aQ.kQ b) p).1<0/\0<sF.Vr (cD.nO fn b q).1 (cD.nO fn b q).2 (cD.qC b q) (eE fn (aQ.kQ b) p).2):=by
 have tk:=Rr h hf hq;obtain⟨k,hk⟩:=uO (w:=p+80) h.x (by omega);have N:=wU (fn:=fn) (p:=p) h.x hp hf hk;have M:=Kg (fn:=fn) tk.2.2.1 hq.1 rfl tk.2.2.2.2 hf;have ek:k7 (dK.Ja b) (dK.Ko b) (q7 (dK.Ja b) (dK.Ko b) q)=k:=by
  have n2:=M.Mo;rw[Mh h.1,Mi h.1]at n2 ⊢;rw[<-h.q]at n2;exact R.Lh h.x.fit n2 hk.Mo
 have eq:cD.qC b q=q7 (dK.Ja b) (dK.Ko b) q:=rfl;have eV:cD.nO fn b q=Ia fn (dK.Ja b) (dK.Ko b) (q7 (dK.Ja b) (dK.Ko b) q):=rfl;have ex:R.qz (dK.Ja b,dK.Ko b)=R.qz (aQ.kQ b):=by rw[Mh h.1,Mi h.1,h.q]
 have lo:=M.lo;have hi:=M.hi;have wd:=M.wd;rw[ek,ex,<-eV,<-eq]at lo hi wd;have bFR:=N.bx.lo;have aXL:=N.bx.hi;have vh:=N.vh;have m0:=N.bx.m0;generalize eE fn (aQ.kQ b) p=s at *;generalize R.fv fn (R.qz (aQ.kQ b)) k=V at *;generalize cD.nO fn b q=t at *;generalize cD.qC b q=Q at *;have pQ:=R.cY Q;have pq:=R.cY q;have qe:∀z:Int,R.qz (z,-Q)*R.pz Q=(z:Rat):=fun z=>aWF
 have L1:¬0<lR s.1.1 s.1.2 t.2 (-Q):=by
  rw[Ku];exact fun hc=>bWT pQ bFR m0 hi (qe t.2) hc
 have H1:¬lR s.2.1 s.2.2 t.1 (-Q)<0:=by
  rw[Tb];exact fun hc=>bWS pQ aXL m0 lo (qe t.1) hc
 unfold sF.Vr;refine⟨?_,?_,?_⟩
 ·rw[if_neg L1];split <;> decide
 ·rw[if_neg H1];split <;> decide
 ·intro yR aXA;have em:mg p=R.pz (-p-1500):=by unfold mg;rw[bG]
  have wq:R.pz 1090<R.pz q*mg p:=by
   rw[em,<-R.iG];exact R.aJV (by omega)
  have w1:=bWP pQ pq wd vh wq;have L2:lR s.1.1 s.1.2 t.1 (-Q)<0:=by
   rw[Tb];exact bWR pQ bFR w1 hi (qe t.1)
  have H2:0<lR s.2.1 s.2.2 t.2 (-Q):=by
   rw[Ku];exact bWQ pQ aXL w1 lo (qe t.2)
  rw[if_pos L2,if_neg H1,if_pos H2];decide
theorem aXI{fn b p:Int}(h:Real b)(hf:1<=fn/\fn<=3)(hp:1<=p/\p<=66000):wB.Jc fn b (eE fn (aQ.kQ b) p).1 (eE fn (aQ.kQ b) p).2 p 5 (p+100):=by
 have A:∀q:Int,1<=q->q<=133500->cD.Dm fn b q/\sF.Vr (cD.nO fn b q).1 (cD.nO fn b q).2 (cD.qC b q) (eE fn (aQ.kQ b) p).1<=0/\0<=sF.Vr (cD.nO fn b q).1 (cD.nO fn b q).2 (cD.qC b q) (eE fn (aQ.kQ b) p).2:=fun q h1 h2 =>
  have B:=aDN h hf hp ⟨h1,h2⟩
  ⟨Rr h hf ⟨h1,h2⟩,B.1,B.2.1⟩
 have r1:=A (p+100) (by omega) (by omega);have r2:=A ((p+100)*2) (by omega) (by omega);refine Or.inr ⟨r1.1,r1.2.1,r1.2.2,Or.inr (Or.inr ⟨r2.1,r2.2.1,r2.2.2,?_⟩)⟩
 by_cases c:2500<=p
 ·exact Or.inl ((aDN h hf hp ⟨by omega,by omega⟩).2.2 c (by omega))
 ·have r3:=A ((p+100)*2*2) (by omega) (by omega);have r4:=A ((p+100)*2*2*2) (by omega) (by omega);exact Or.inr (Or.inr ⟨r3.1,r3.2.1,r3.2.2,Or.inr (Or.inr ⟨r4.1,r4.2.1,r4.2.2,Or.inr (Or.inl (by omega))⟩)⟩)
end M
namespace W
open Go AI M
namespace Pc
def E:=mE [] 20 [] [] []
def aF:=bd f163
theorem aU:Nk E aF:=nk
theorem start a:aG E f163 aF [D.s (ints u64 a)]=letI A:=(a.length:Int);letI B:=A-(1:Int);aD (decide (A<=(8192:Int))) (aD (A==(0:Int)) (some [D.s (sc (bool true))]) (if 0<=i64.wrap B/\i64.wrap B<A then some [D.s (sc (bool (a.getD (i64.wrap B).toNat 0 !=(0:Int))))]else none)) (some [D.s (sc (bool false))]):=eJ aU
def sp(a:List Int):Prop×List D:=(M6.cI a/\a.length<=8192,[.s (.sc (.bool true))])
theorem spec:iD E f163 aF (pI .u64) sp:=by
 rintro a ⟨hn,hl⟩;refine(start a).trans ?_;rw[aR]
 by_cases h0:a.length=0
 ·rw[cL];rfl
 ·rw[cO,wrap_i64 (n:=(a.length:Int)-1),aT];have e:((a.length:Int)-1).toNat=a.length-1:=by omega
  have hg:a.getLast?=some (a.getD (a.length-1) 0):=by
   rw[List.getLast?_eq_getElem?,cCQ,bXY (by omega)];rfl
  have:=hn.top hg;rw[e,bne_iff_ne.2 this];rfl
def aJ:dG:=orc1 (pI .u64) sp
theorem ok:OK 163 aJ:=(dZ E aF aE func163).oS rfl spec
end Pc
namespace Pb
def E:=mE [(163,Pc.aJ)] 17 [] [] []
def aF:=bd f120
theorem aU:Nk E aF:=nk
theorem start a b:aG E f120 aF [D.agg [sc (bool a),ints u64 b]]=aO (M6.cI b/\b.length<=8192) (aD a (some [D.s (sc (bool !(b.length:Int)==(0:Int)))]) (some [D.s (sc (bool true))])):=eJ aU
def sp(x:Bool×List Int):Prop×List D:=(iY x/\x.2.length<=8192,[.s (.sc (.bool true))])
theorem spec:iD E f120 aF qN sp:=by
 rintro x ⟨hw,hl⟩;refine(start x.1 x.2).trans ((gP ⟨hw.1,hl⟩).trans ?_);obtain⟨b,a⟩:=x;have bFV:=hw.2.1;have hz:=M6.cX hw.1
 try dsimp only at *
 cases b with
 |false=>rw[bF];rfl
 |true =>
  rw[bT,show((a.length:Int)==0)=false from beq_eq_false_iff_ne.2 (fun h0=>bFV rfl (hz.1 (by omega)))];rfl
def aJ:dG:=orc1 qN sp
theorem ok:OK 120 aJ:=(dZ E aF (aA Pc.ok aE) func120).oS rfl spec
end Pb
namespace Gz
def E:=mE [(120,Pb.aJ)] 32 [] [(3,[1])] [3]
def aF:=bd f75
theorem aU:Nk E aF:=nk
def J3 a b c:=lE E f75 aF 3 [bM 0 35 [bC a,eF b,cV c]]
theorem start a b c:aG E f75 aF [D.agg [sc (bool a),ints u64 b,sc (int i64 c)]]=letI A:=some [D.s (sc (bool false))];aO (iY (a,b)/\b.length<=8192) (aD (decide (1048576<c)) A (aD (decide (c<(-1048576:Int))) A (Gz.J3 a b c))):=eJ aU
theorem fB a b c:J3 a b c=aD ((b.length:Int)==(0:Int)) (some [D.s (sc (bool (c==0)))]) (if(0:Int)<=(0:Int)/\0<(b.length:Int)then some [D.s (sc (bool ((b.getD 0 0).tmod 2==(1:Int))))]else none):=cJ aU
def sp(x:iW):Prop×List D:=(aW x,[.s (.sc (.bool true))])
theorem spec:iD E f75 aF jE sp:=by
 intro x h;have h:aW x:=h;have hn:=h.Fh;refine(start x.1 x.2.1 x.2.2).trans ((gP ⟨h.1,h.len⟩).trans ?_);obtain⟨b,a,e⟩:=x;obtain⟨hw,he,h0,h1⟩:=h
 try dsimp only at *
 have hz:=M6.cX hn;rw[aN,aN,fB]
 by_cases hl:a.length=0
 ·have hv:=hz.1 hl;rw[cL,h0 hv];rfl
 ·have g:=hn.gT.get 0;have ev:M6.val a=(a.getD 0 0).toNat+18446744073709551616*M6.val (a.drop 1):=by
   have:=M6.gB (a:=a) 0;rwa [cDT]at this
  have od:=h1 (fun hv=>hl (hz.2 hv));have t:(a.getD 0 0).tmod 2=1:=by rw[cEG g.1];omega
  rw[cO,if_pos ⟨by omega,by omega⟩,t];rfl
def aJ:dG:=orc1 jE sp
theorem ok:OK 75 aJ:=(dZ E aF (aA Pb.ok aE) func75).oS rfl spec
end Gz
namespace rY
def E:=mE [(75,Gz.aJ),(41,Og.aJ),(37,Ff.aJ),(76,Bu.aJ),(77,Oh.aJ),(78,kJ.aJ)] 96 [94] [(3,[1,2]),(7,[1,2,5,6,7])] [3,7]
def aF:=bd f39
theorem aU:Nk E aF:=nk
def J3 a b c d e f g:=lE E f39 aF 3 [bK a,bM 1 37 [bC b,eF c,cV d,bC e,eF f,cV g]]
def J7 a b c d e f g h i j k l:=lE E f39 aF 7 [bK a,bM 1 37 [bC b,eF c,cV d,bC e,eF f,cV g],bM 2 74 [bC h,gU i],bM 3 74 [bC j,gU k],bK l]
theorem start a c d e f g b:aG E f39 aF [D.agg [sc (bool a),ints u64 c,sc (int i64 d),sc (bool e),ints u64 f,sc (int i64 g)],D.s (sc (int i64 b))]=aO (aW (a,c,d)) (aO (aW (e,f,g)) (rY.J3 b a c d e f g)):=eJ aU
theorem fB a b c d e f g:J3 a b c d e f g=letI C:=some [D.s (sc (bool false))];aO (M6.bN c/\c.length<=137438953472) (aC (isNeg (wv (b,c))) fun h=>aC (dg (wv (b,c)).natAbs) fun i=>letI G:=(↑(bl (val i)):Int);letI A:=cI i/\i.length<=4398046511104;aO (M6.bN f/\f.length<=137438953472) (aC (isNeg (wv (e,f))) fun j=>aC (dg (wv (e,f)).natAbs) fun k=>letI F:=(↑(bl (val k)):Int);letI B:=cI k/\k.length<=4398046511104;aO A (aO B (aD (decide (i64.wrap (i64.wrap (F+g)+2)<i64.wrap (G+d))) C (aO B (aO A (aD (decide (i64.wrap (i64.wrap (G+d)+2)<i64.wrap (F+g))) C (rY.J7 a b c d e f g h i j k (if g<d then g else d))))))))):=cJ aU
theorem Gy a b c d e f g h i j k l:J7 a b c d e f g h i j k l=letI B:=zv (j,k)*(2:Int)^(i64.wrap (g-l)).toNat;letI A:=zv (h,i)*(2:Int)^(i64.wrap (d-l)).toNat;aO (dP (h,i)/\i64.wrap (d-l)<=1099511627776) (aC (isNeg A) fun m=>aC (dg A.natAbs) fun n=>aO (dP (j,k)/\i64.wrap (g-l)<=1099511627776) (aC (isNeg B) fun o=>aC (dg B.natAbs) fun p=>aO (dP (m,n)/\dP (o,p)/\n.length<549755813888/\p.length<549755813888) (aC (cT (zv (m,n)) (zv (o,p))) fun q=>aD (decide (q<=0)) (aO (dP (m,n)/\dP (o,p)/\n.length<=134217728/\p.length<=134217728/\0<=a/\a<=134217728) (aC (kJ.Yi (zv (m,n)) (zv (o,p)) a) fun r=>some [D.s (sc (bool r))])) (some [D.s (sc (bool false))])))):=cJ aU
def bMX(a b:Int×Int)(p:Int):Prop:=(0<R.qz a/\(R.qz b-R.qz a)*R.pz p<=R.qz a)\/(R.qz b<0/\(R.qz b-R.qz a)*R.pz p<=-R.qz b)
def aWD(a b:Int×Int)(p:Int):Prop:=(1<=p/\p<=70000)/\(bl a.1.natAbs<=100000/\bl b.1.natAbs<=100000)/\(-200000<=a.2/\a.2<=200000)/\(-200000<=b.2/\b.2<=200000)/\(bI a<=bI b+2/\bI b<=bI a+2)/\R.qz a<=R.qz b/\bMX a b p
def sp(s:vF)(p:Int):Prop×List D:=(dR s/\aWD (dv (fL s)) (dv (fO s)) p,[.s (.sc (.bool true))])
theorem vI{a:Int}{n k:Nat}(h:bl a.natAbs<=k):bl (a*2^n).natAbs<=k+n+1:=by
 rw[cDE,cLP];refine bYC (nC _ _) ?_;have:bl ((2:Int).natAbs^n)=n+1:=kJ.aET n;omega
theorem Kn{p:Int×Int}{g:Int}(h:g<=p.2):R.qz p=((p.1*2^(p.2-g).toNat:Int):Rat)*R.pz g:=by
 obtain⟨k,hk⟩:=cCM (show 0<=p.2-g by omega);have e:p.2=g+(k:Int):=by omega
 unfold R.qz;rw[hk,cBF,e,R.dT,cEV];have:(((2:Int)^k:Int):Rat)=((2^k:Nat):Rat):=by norm_cast
 rw[this];grind
theorem spec:eR E f39 aF tN (pN .i64) sp:=by
 rintro s p ⟨hs,⟨p0,p1⟩,⟨b1,b2⟩,⟨e1,e2⟩,⟨f1,f2⟩,⟨t1,t2⟩,hle,hn⟩;have hL:aW (s.1,s.2.1,s.2.2.1):=hs.1;have hH:aW (s.2.2.2.1,s.2.2.2.2.1,s.2.2.2.2.2):=hs.2.1;have lL:s.2.1.length<=8192:=hL.len;have lH:s.2.2.2.2.1.length<=8192:=hH.len;have a1:wv (s.1,s.2.1)=(dv (fL s)).1:=rfl;have a2:wv (s.2.2.2.1,s.2.2.2.2.1)=(dv (fO s)).1:=rfl;have a3:s.2.2.1=(dv (fL s)).2:=rfl;have a4:s.2.2.2.2.2=(dv (fO s)).2:=rfl;have u1:bI (dv (fL s))=(dv (fL s)).2+(bl (dv (fL s)).1.natAbs:Nat)-1:=rfl;have u2:bI (dv (fO s))=(dv (fO s)).2+(bl (dv (fO s)).1.natAbs:Nat)-1:=rfl;refine(start s.1 s.2.1 s.2.2.1 s.2.2.2.1 s.2.2.2.2.1 s.2.2.2.2.2 p).trans ?_;rw[gP hL,gP hH,fB,gP ⟨hL.Fh.gT,by omega⟩];simp only[aB,a1,a2,a3,a4];rw[gP ⟨hH.Fh.gT,by omega⟩];generalize dv (fL s)=a at *;generalize dv (fO s)=b at *;have k1:=fD b1;have k2:=fD b2;have v1:val (dg a.1.natAbs)=a.1.natAbs:=bD _;have v2:val (dg b.1.natAbs)=b.1.natAbs:=bD _;rw[gP ⟨bA _,by omega⟩,gP ⟨bA _,by omega⟩,v1,v2,wrap_i64 (n:=(bl b.1.natAbs:Int)+b.2),wrap_i64 (n:=(bl a.1.natAbs:Int)+a.2),wrap_i64 (n:=(bl b.1.natAbs:Int)+b.2+2),aN,gP ⟨bA _,by omega⟩,gP ⟨bA _,by omega⟩,wrap_i64 (n:=(bl a.1.natAbs:Int)+a.2+2),aN,Gy];obtain⟨g,hg⟩:∃g,g=if b.2<a.2 then b.2 else a.2:=⟨_,rfl⟩
 have g1:g<=a.2/\g<=b.2/\-200000<=g:=by rw[hg];split <;> omega
 have x1:((a.2-g).toNat:Int)<=400000:=by omega
 have x2:((b.2-g).toNat:Int)<=400000:=by omega
 rw[<-hg,wrap_i64 (n:=a.2-g),wrap_i64 (n:=b.2-g)];simp only[aB,iX];have q1:=Kn (p:=a) g1.1;have q2:=Kn (p:=b) g1.2.1;have m1:=vI (n:=(a.2-g).toNat) b1;have m2:=vI (n:=(b.2-g).toNat) b2;rw[gP ⟨dU b1 (by decide),by omega⟩,gP ⟨dU b2 (by decide),by omega⟩];generalize a.1*2^(a.2-g).toNat=A at *;generalize b.1*2^(b.2-g).toNat=B at *;have l1:=fD m1;have l2:=fD m2;have z1:dP (isNeg A,dg A.natAbs):=dU m1 (by omega);have z2:dP (isNeg B,dg B.natAbs):=dU m2 (by omega);have pg:=R.cY g;have ord:A<=B:=by
  have:(A:Rat)<=(B:Rat):=by
   refine Rat.not_lt.1 fun hc=>?_
   have:=cCX pg (show 0<(A:Rat)-(B:Rat) by grind);grind
  exact_mod_cast this
 have cz:cT A B<=0:=by unfold cT;split <;> (try split) <;> omega
 have th:kJ.Yi A B p=true:=by
  have cc:∀x y:Rat,x*R.pz g<=y*R.pz g->x<=y:=fun x y h=>Rat.not_lt.1 fun hc=>by
   have:=cCX pg (show 0<x-y by grind);grind
  have cl:∀x:Rat,0<x*R.pz g->0<x:=fun x h=>Rat.not_le.1 fun hc=>by
   have:=R.aM (cCJ pg) (show 0<=-x by grind);grind
  refine aBY (by omega) (by omega) ?_;unfold bMX at hn;rw[q1,q2]at hn;rcases hn with ⟨h1,h2⟩ |⟨h1,h2⟩
  ·exact Or.inl ⟨cl _ h1,cc _ _ (by grind)⟩
  ·refine Or.inr ⟨?_,cc _ _ (by grind)⟩;have:=cl (-(B:Rat)) (by grind);grind
 rw[gP ⟨z1,z2,by omega,by omega⟩,aR cz,gP ⟨z1,z2,by omega,by omega,by omega,by omega⟩,th];rfl
def aJ:dG:=orc2 tN (pN .i64) sp
theorem ok:OK 39 aJ:=(dZ E aF (aA Gz.ok (aA Og.ok (aA Ff.ok (aA Bu.ok (aA Oh.ok (aA kJ.ok aE)))))) func39).jR rfl spec
end rY
end W
namespace M
open Go AI W
theorem aNF{x:Rat}(h:0<x):R.ab x=x:=R.bW (cCJ h)
theorem aEZ{x:Rat}(h:x<0):R.ab x=-x:=by unfold R.ab;rw[if_neg (by grind)]
theorem bCD{fn b p:Int}(h:Real b)(hf:1<=fn/\fn<=3)(hp:1<=p/\p<=66000):rY.aWD (eE fn (aQ.kQ b) p).1 (eE fn (aQ.kQ b) p).2 p:=by
 obtain⟨k,hk⟩:=uO (w:=p+80) h.x (by omega);have N:=wU (fn:=fn) (p:=p) h.x hp hf hk;obtain⟨c1,c2⟩:=N.bits;have bx:=N.bx;have vl:=N.vl;have vh:=N.vh;have v0:=N.v0;generalize eE fn (aQ.kQ b) p=s at *;generalize R.fv fn (R.qz (aQ.kQ b)) k=V at *;have r1:R.pz (-p-8)<=1/64:=by
  have h1:=R.cN (show -p-8<=-6 by omega);have h2:R.pz (-6)*64=1:=by
   have:=R.gE 0 (n:=6) (c:=64) (by norm_cast);rwa [R.fA]at this
  grind
 obtain⟨a1,a2,a3,a4,sp,sn,V0⟩:=Bp bx r1 v0;have n1:s.1.1≠0:=xV (by grind);have n2:s.2.1≠0:=xV (by grind);obtain⟨t1,t2⟩:=nR n1;obtain⟨t3,t4⟩:=nR n2;have g1:-1101<=bI s.1:=yU n1 (by have:=R.pW (-1100);rw[show(-1100:Int)-1=-1101 by rfl]at this;grind);have g2:-1101<=bI s.2:=yU n2 (by have:=R.pW (-1100);rw[show(-1100:Int)-1=-1101 by rfl]at this;grind);have bQT:=R.jJ 1090;rw[show(1090:Int)+1=1091 by rfl]at bQT;have P:=R.cY 1090;have g3:bI s.1<=1091:=uL n1 (by grind);have g4:bI s.2<=1091:=uL n2 (by grind);have d1:bI s.1<bI s.2+2:=Av n1 (by
  have:=R.jJ (bI s.2+1);rw[show bI s.2+1+1=bI s.2+2 by omega]at this;grind)
 have d2:bI s.2<bI s.1+2:=Av n2 (by
  have:=R.jJ (bI s.1+1);rw[show bI s.1+1+1=bI s.1+2 by omega]at this;grind)
 have u1:bI s.1=s.1.2+(bl s.1.1.natAbs:Nat)-1:=rfl;have u2:bI s.2=s.2.2+(bl s.2.1.natAbs:Nat)-1:=rfl;have b1:=oO (n:=s.1.1.natAbs) (by omega);have b2:=oO (n:=s.2.1.natAbs) (by omega);have m0:=bx.m0;have lo:=bx.lo;have hi:=bx.hi;have wd:=bx.wd;have wp:(R.qz s.2-R.qz s.1)*R.pz p*64<=R.ab V:=by
  have e:R.pz (-p-8)*R.pz p*256=1:=by
   rw[<-R.iG];have:=R.gE 0 (n:=8) (c:=256) (by norm_cast);rw[R.fA]at this;rw[show -p-8+p=0-((8:Nat):Int) by omega];exact this
  have m:=R.aM (cCJ (R.cY p)) (show 0<=R.pz (-p-8)*R.ab V-(R.qz s.2-R.qz s.1) by grind);have m2:R.pz p*(R.pz (-p-8)*R.ab V)*256=R.ab V:=by
   have:R.pz p*(R.pz (-p-8)*R.ab V)*256=R.pz (-p-8)*R.pz p*256*R.ab V:=by grind
   rw[this,e];grind
  grind
 refine⟨⟨hp.1,by omega⟩,⟨by omega,by omega⟩,⟨by omega,by omega⟩,⟨by omega,by omega⟩,⟨by omega,by omega⟩,by grind,?_⟩;have vs:0<V\/V<0:=by grind
 rcases vs with h |h
 ·have q1:=sp h;rw[aNF q1]at a1;exact Or.inl ⟨q1,by grind⟩
 ·have q1:=sn h;rw[aEZ q1]at a3;exact Or.inr ⟨q1,by grind⟩
theorem bBZ{fn b p:Int}(h:Real b)(hf:1<=fn/\fn<=2)(hp:1<=p/\p<=66000):¬lR (eE fn (aQ.kQ b) p).1.1 (eE fn (aQ.kQ b) p).1.2 (-1) 0<0/\¬0<lR (eE fn (aQ.kQ b) p).2.1 (eE fn (aQ.kQ b) p).2.2 1 0:=by
 obtain⟨k,hk⟩:=uO (w:=p+80) h.x (by omega);have N:=wU (fn:=fn) (p:=p) h.x hp ⟨hf.1,by omega⟩ hk;obtain⟨o1,o2⟩:=N.on hf.2;generalize eE fn (aQ.kQ b) p=s at *;rw[R.dJ]at o1 o2;have e:R.qz (-1,0)=-1:=by
  show((-1:Int):Rat)*R.pz 0=-1;rw[R.fA,show((-1:Int):Rat)=-1 by norm_cast];grind
 rw[Tb,Ku,e,nT];have e1:R.qz (s.1.1,s.1.2)=R.qz s.1:=rfl;have e2:R.qz (s.2.1,s.2.2)=R.qz s.2:=rfl;rw[e1,e2];constructor <;> grind
theorem aSJ{fn b p:Int}(h:Real b)(hf:1<=fn/\fn<=3)(hp:1<=p/\p<=66000):(bl (eE fn (aQ.kQ b) p).1.1.natAbs:Int)<=p+21/\(bl (eE fn (aQ.kQ b) p).2.1.natAbs:Int)<=p+21:=by
 obtain⟨k,hk⟩:=uO (w:=p+80) h.x (by omega);exact(wU (fn:=fn) (p:=p) h.x hp hf hk).bits
end M
namespace W
open Go AI M
namespace wF
def E:=mE [] 11 [] [] []
def aF:=bd f36
theorem aU:Nk E aF:=nk
theorem start a:aG E f36 aF [D.s (sc (int u64 a))]=some [D.s (sc (bool (decide (a.tmod 9223372036854775808<(9218868437227405312:Int))))),D.s (sc (bool (a.tmod 9223372036854775808==(0:Int))))]:=eJ aU
def sp(b:Int):Prop×List D:=(0<=b/\b<18446744073709551616,[.s (.sc (.bool (decide (b%9223372036854775808<9218868437227405312)))),.s (.sc (.bool (b%9223372036854775808==0)))])
theorem spec:iD E f36 aF (pN .u64) sp:=by
 intro b h;have h:0<=b/\b<18446744073709551616:=h;refine(start b).trans ?_;rw[cEG h.1];rfl
def aJ:dG:=orc1 (pN .u64) sp
theorem ok:OK 36 aJ:=(dZ E aF aE func36).oS rfl spec
end wF
namespace Df
def E:=mE [(36,wF.aJ)] 30 [] [(3,[1])] [3]
def aF:=bd f34
theorem aU:Nk E aF:=nk
def J3 a:=lE E f34 aF 3 [dM a]
theorem start a b c:aG E f34 aF [D.s (sc (int i64 a)),D.s (sc (int u64 b)),D.s (sc (int i64 c))]=letI A:=some [D.s (sc (int i64 1))];aD (decide (a<1)) A (aD (decide (3<a)) A (aD (decide (c<1)) A (aD (decide (66000<c)) A (Df.J3 b)))):=eJ aU
theorem fB a:J3 a=aO (0<=a/\a<18446744073709551616) (aD (!decide (a%9223372036854775808<(9218868437227405312:Int))) (some [D.s (sc (int i64 6))]) (some [D.s (sc (int i64 0))])):=cJ aU
def sp(fn b p:Int):Prop×List D:=(0<=b/\b<18446744073709551616,[.s (.sc (.int .i64 (bQ.pP fn b p)))])
theorem spec:sR E f34 aF (pN .i64) (pN .u64) (pN .i64) sp:=by
 intro fn b p h;have h:0<=b/\b<18446744073709551616:=h;refine(start fn b p).trans ?_;unfold sp;rw[tP]
 by_cases c1:fn<1
 ·rw[aR c1,if_pos c1]
 ·rw[aN c1,if_neg c1]
  by_cases c2:3<fn
  ·rw[aR c2,if_pos c2]
  ·rw[aN c2,if_neg c2]
   by_cases c3:p<1
   ·rw[aR c3,if_pos c3]
   ·rw[aN c3,if_neg c3]
    by_cases c4:66000<p
    ·rw[aR c4,if_pos c4]
    ·rw[aN c4,if_neg c4,fB,gP h]
     by_cases c5:b%9223372036854775808<9218868437227405312
     ·rw[decide_eq_true c5,if_pos c5];rfl
     ·rw[decide_eq_false c5,if_neg c5];rfl
def aJ:dG:=orc3 (pN .i64) (pN .u64) (pN .i64) sp
theorem ok:OK 34 aJ:=(dZ E aF (aA wF.ok aE) func34).Cq rfl spec
end Df
namespace bLS
def E:=mE [(119,To.aJ)] 15 [] [] []
def aF:=bd f73
theorem aU:Nk E aF:=nk
theorem start a b:aG E f73 aF [D.agg [sc (bool a),ints u32 b]]=letI A:=bN b/\b.length<=1099511627776;aD a (aO A (some [D.agg [sc (bool (decide (0<(b.length:Int)))),ints u64 (M6.dg (val b))]])) (aO A (some [D.agg [sc (bool false),ints u64 (M6.dg (val b))]])):=eJ aU
def sp(x:Bool×List Int):Prop×List D:=(dP x,[wD (zv x)])
theorem spec:iD E f73 aF nM sp:=by
 intro x h;have h:dP x:=h;have l:=h.len;have hz:=cX h.1;refine(start x.1 x.2).trans ?_;obtain⟨b,a⟩:=x
 try dsimp only at *
 show _=some [wD (zs b (val a))];rw[aTB];cases b with
 |false=>rw[bF,gP ⟨h.1.gT,by omega⟩];rfl
 |true =>
  rw[bT,gP ⟨h.1.gT,by omega⟩,cAJ];have:decide (0<(a.length:Int))=decide (val a≠0):=by
   by_cases h:val a=0
   ·rw[decide_eq_false (by omega),decide_eq_false (by omega)]
   ·rw[decide_eq_true (by omega),decide_eq_true h]
  rw[this]
def aJ:dG:=orc1 nM sp
theorem ok:OK 73 aJ:=(dZ E aF (aA To.ok aE) func73).oS rfl spec
end bLS
namespace aBA
def E:=mE [] 26 [] [(4,[0,1,5])] []
def aF:=bd f33
theorem aU:Nk E aF:=nk
def L4 a b c:=nN E f33 aF 4 [iU a,iU b,bK c]
theorem start a b:aG E f33 aF [D.s (ints u64 a),D.s (ints u64 b)]=aD ((a.length:Int) !=(b.length:Int)) (some [D.s (sc (bool false))]) (aBA.L4 a b 0):=eJ aU
theorem kV a b c:L4 a b c=aD (decide (c<(a.length:Int))) (if 0<=c/\c<(a.length:Int)then if 0<=c/\c<(b.length:Int)then aD (a.getD c.toNat 0 !=b.getD c.toNat 0) (some [D.s (sc (bool false))]) (aBA.L4 a b (i64.wrap (c+1)))else none else none) (some [D.s (sc (bool true))]):=lJ aU
theorem L{a b:List Int}(hl:a.length=b.length)(h:a.length<=4398046511104):∀(d i:Nat),i+d=a.length->a.take i=b.take i->L4 a b (i:Int)=some [D.s (.sc (.bool (decide (a=b))))]:=by
 intro d
 induction d with
 |zero =>
  intro i hd hv;rw[cFG (by omega),cFG (by omega)]at hv;rw[kV,aN,decide_eq_true hv]
 |succ d ih =>
  intro i hd hv;rw[kV,aR,aT,aT,cBF];have ga:a.getD i 0=a[i]'(by omega):=by simp[cCQ,show i<a.length by omega]
  have gb:b.getD i 0=b[i]'(by omega):=by simp[cCQ,show i<b.length by omega]
  by_cases hc:a.getD i 0=b.getD i 0
  ·rw[gG hc,wrap_i64];refine ih (i+1) (by omega) ?_;rw[cDR (by omega),cDR (by omega),hv,<-ga,<-gb,hc]
  ·rw[nD hc,decide_eq_false (fun h=>hc (by rw[h]))]
def sp(a b:List Int):Prop×List D:=(a.length<=4398046511104/\b.length<=4398046511104,[.s (.sc (.bool (decide (a=b))))])
theorem spec:eR E f33 aF (pI .u64) (pI .u64) sp:=by
 rintro a b ⟨h1,h2⟩;refine(start a b).trans ?_
 by_cases hl:a.length=b.length
 ·rw[gG];exact L hl h1 a.length 0 (by omega) rfl
 ·rw[nD];unfold sp;rw[decide_eq_false (fun h=>hl (by rw[h]))]
def aJ:dG:=orc2 (pI .u64) (pI .u64) sp
theorem ok:OK 33 aJ:=(dZ E aF aE func33).jR rfl spec
end aBA
namespace Uh
def E:=mE [(42,aAV.aJ),(73,bLS.aJ),(33,aBA.aJ)] 55 [53] [] []
def aF:=bd f35
theorem aU:Nk E aF:=nk
theorem start a c d e f g b:aG E f35 aF [D.agg [sc (bool a),ints u64 c,sc (int i64 d),sc (bool e),ints u64 f,sc (int i64 g)],D.s (sc (int i64 b))]=letI B:=(isNeg b,dg b.natAbs);letI A:=some [D.s (sc (bool false))];aO ((-9223372036854775808:Int)<=b/\b<9223372036854775808) (aO (dP B) (aC (isNeg (zv B)) fun h=>aC (M6.dg (zv B).natAbs) fun i=>aD (d==0) (aD (g==0) (aD (a==h) (aD (e==h) (aO (c.length<=4398046511104/\i.length<=4398046511104) (aC (decide (c=i)) fun j=>aD j (aO (f.length<=4398046511104/\i.length<=4398046511104) (aC (decide (f=i)) fun k=>some [D.s (sc (bool k))])) A)) A) A) A) A)):=eJ aU
def sp(s:vF)(i:Int):Prop×List D:=((i=0\/i=1)/\dR s/\dv (fL s)=(i,0)/\dv (fO s)=(i,0),[.s (.sc (.bool true))])
theorem spec:eR E f35 aF tN (pN .i64) sp:=by
 rintro s i ⟨hi,hs,h1,h2⟩;have e1:=hs.1.dD;have e2:=hs.2.1.dD;rw[h1]at e1;rw[h2]at e2;unfold M.dD at e1 e2;simp at e1 e2;obtain⟨a1,a2,a3⟩:=e1;obtain⟨b1,b2,b3⟩:=e2;have a1:s.1=isNeg i:=a1.symm;have a2:s.2.1=M6.dg i.natAbs:=a2.symm;have a3:s.2.2.1=0:=a3.symm;have b1:s.2.2.2.1=isNeg i:=b1.symm;have b2:s.2.2.2.2.1=M6.dg i.natAbs:=b2.symm;have b3:s.2.2.2.2.2=0:=b3.symm;refine(start s.1 s.2.1 s.2.2.1 s.2.2.2.1 s.2.2.2.2.1 s.2.2.2.2.2 i).trans ?_;have l:(M6.dg i.natAbs).length<=1:=by rcases hi with rfl |rfl <;> decide +kernel
 have hz:dP (isNeg i,dg i.natAbs):=dU (k:=1) (by rcases hi with rfl |rfl <;> decide +kernel) (by decide);rw[gP,gP hz];simp only[aB,iX];rw[a1,a2,a3,b1,b2,b3,cL rfl,cL rfl,Nz (by simp),Nz (by simp),gP ⟨by omega,by omega⟩,decide_eq_true rfl,bT,gP ⟨by omega,by omega⟩];rfl
def aJ:dG:=orc2 tN (pN .i64) sp
theorem ok:OK 35 aJ:=(dZ E aF (aA aAV.ok (aA bLS.ok (aA aBA.ok aE))) func35).jR rfl spec
end Uh
namespace aBH
def E:=mE [(79,Oz.aJ)] 14 [13] [] []
def aF:=bd f40
theorem aU:Nk E aF:=nk
theorem start a c b e f d:aG E f40 aF [D.agg [sc (bool a),ints u32 c],D.s (sc (int i64 b)),D.agg [sc (bool e),ints u32 f],D.s (sc (int i64 d))]=aO (dP (a,c)/\dP (e,f)/\c.length<=1048576/\f.length<=1048576/\((-16777216:Int)<=b/\b<=16777216)/\(-16777216:Int)<=d/\d<=16777216) (some [D.s (sc (int i64 (lR (zv (a,c)) b (zv (e,f)) d)))]):=eJ aU
def sp(m:Bool×List Int)(e:Int)(l:Bool×List Int)(f:Int):Prop×List D:=(dP m/\dP l/\m.2.length<=1048576/\l.2.length<=1048576/\(-16777216<=e/\e<=16777216)/\(-16777216<=f/\f<=16777216),[.s (.sc (.int .i64 (lR (zv m) e (zv l) f)))])
theorem spec:Ud E f40 aF nM (pN .i64) nM (pN .i64) sp:=by
 intro m e l f h;exact(start m.1 m.2 e l.1 l.2 f).trans (gP h)
def aJ:dG:=orc4 nM (pN .i64) nM (pN .i64) sp
theorem ok:OK 40 aJ:=(dZ E aF (aA Oz.ok aE) func40).aQH rfl spec
end aBH
namespace Um
def E:=mE [(83,wB.aJ)] 17 [16] [] []
def aF:=bd f43
theorem aU:Nk E aF:=nk
theorem start a b c d f g h i e:aG E f43 aF [D.s (sc (int i64 a)),D.s (sc (int u64 b)),D.agg [sc (bool c),ints u64 d,sc (int i64 f)],D.agg [sc (bool g),ints u64 h,sc (int i64 i)],D.s (sc (int i64 e))]=aO (aW (c,d,f)/\aW (g,h,i)/\(1<=e/\e<=66000)/\wB.Jc a b (dv (c,d,f)) (dv (g,h,i)) e 5 (e+100)) (some [D.s (sc (bool true))]):=eJ aU
def sp(fn b:Int)(l h:iW)(p:Int):Prop×List D:=(aW l/\aW h/\(1<=p/\p<=66000)/\wB.Jc fn b (dv l) (dv h) p 5 (p+100),[.s (.sc (.bool true))])
theorem spec(fn b:Int)(l h:iW)(p:Int)(hs:(sp fn b l h p).1):aG E f43 aF [(pN .i64).put fn,(pN .u64).put b,jE.put l,jE.put h,(pN .i64).put p]=some (sp fn b l h p).2:=by
 exact(start fn b l.1 l.2.1 l.2.2 h.1 h.2.1 h.2.2 p).trans (gP hs)
def aJ:dG:=orc5 (pN .i64) (pN .u64) jE jE (pN .i64) sp
theorem ok:OK 43 aJ:=(dZ E aF (aA wB.ok aE) func43).bCB rfl spec
end Um
namespace Dd
def E:=mE [(34,Df.aJ),(35,Uh.aJ),(36,wF.aJ),(38,Jm.aJ),(37,Ff.aJ),(39,rY.aJ),(41,Og.aJ),(40,aBH.aJ),(42,aAV.aJ),(43,Um.aJ)] 105 [24,42,104] [(11,[0,1,2,8])] [11]
def aF:=bd f15
theorem aU:Nk E aF:=nk
def Jw a b c d e f g h i:=lE E f15 aF 11 [bK a,dM b,bK c,bM 3 37 [bC d,eF e,cV f,bC g,eF h,cV i]]
theorem start a b c d f g h i j e:aG E f15 aF [D.s (sc (int i64 a)),D.s (sc (int u64 b)),D.s (sc (int i64 c)),D.agg [sc (bool d),ints u64 f,sc (int i64 g),sc (bool h),ints u64 i,sc (int i64 j)],D.s (sc (int i64 e))]=letI H:=dg (M6.val i);letI G:=dg (M6.val f);letI F:=some [D.s (sc (bool true))];letI C:=(d,f,g,h,i,j);letI B:=some [D.s (sc (bool false))];letI A:=aO (((0:Int)=(0:Int)\/(0:Int)=(1:Int))/\dR C/\dv (fL C)=((0:Int),(0:Int))/\dv (fO C)=((0:Int),(0:Int))) F;aO (0<=b/\b<18446744073709551616) (aD (e !=bQ.pP a b c) B (aD (bQ.pP a b c !=0) A (aO (0<=b/\b<18446744073709551616) (aC (b%9223372036854775808==(0:Int)) fun k=>aD k (aD (a==2) (aO (((1:Int)=(0:Int)\/(1:Int)=(1:Int))/\dR C/\dv (fL C)=((1:Int),(0:Int))/\dv (fO C)=((1:Int),(0:Int))) F) (aD (a !=2) A B)) (aO (M6.bN f/\f.length<=274877906944) (aO (cI G/\G.length<=4398046511104) (aC (↑(bl (val G)):Int) fun l=>aD (decide (i64.wrap (c+64)<l)) B (aO (M6.bN i/\i.length<=274877906944) (aO (cI H/\H.length<=4398046511104) (aC (↑(bl (val H)):Int) fun m=>aD (decide (i64.wrap (c+64)<m)) B (Dd.Jw a b c d f g h i j))))))))))):=eJ aU
theorem wA a b c d e f g h i:Jw a b c d e f g h i=letI C:=(d,e,f,g,h,i);letI B:=some [D.s (sc (bool false))];letI A:=aO (aW (d,e,f)/\aW (g,h,i)/\(1<=c/\c<=66000)/\wB.Jc a b (dv (d,e,f)) (dv (g,h,i)) c 5 (c+100)) (some [D.s (sc (bool true))]);aO (dR C/\rY.aWD (dv (fL C)) (dv (fO C)) c) (aD (a !=3) (aO (M6.bN e/\e.length<=137438953472) (aC (isNeg (wv (d,e))) fun j=>aC (dg (wv (d,e)).natAbs) fun k=>aO ((-9223372036854775808:Int)<=(-1:Int)/\(-1:Int)<(9223372036854775808:Int)) (aC (isNeg (-1:Int)) fun l=>aO (dP (j,k)/\dP (l,dg 1)/\k.length<=1048576/\(dg 1).length<=1048576/\((-16777216:Int)<=f/\f<=16777216)/\(-16777216:Int)<=(0:Int)/\(0:Int)<=(16777216:Int)) (aC (lR (zv (j,k)) f (zv (l,dg 1)) 0) fun m=>aD (decide (m<0)) B (aO (M6.bN h/\h.length<=137438953472) (aC (isNeg (wv (g,h))) fun n=>aC (dg (wv (g,h)).natAbs) fun o=>aO ((-9223372036854775808:Int)<=(1:Int)/\(1:Int)<(9223372036854775808:Int)) (aO (dP (n,o)/\dP (isNeg 1,dg 1)/\o.length<=1048576/\(dg 1).length<=1048576/\((-16777216:Int)<=i/\i<=16777216)/\(-16777216:Int)<=(0:Int)/\(0:Int)<=(16777216:Int)) (aC (lR (zv (n,o)) i (zv (isNeg 1,dg 1)) 0) fun p=>aD (decide (0<p)) B A)))))))) A):=cJ aU
def sp(fn b p:Int)(s:vF)(e:Int):Prop×List D:=((0<=b/\b<18446744073709551616)/\dR s/\e=bQ.pP fn b p/\dv (fL s)=(aI.iJ fn b p).1/\dv (fO s)=(aI.iJ fn b p).2,[.s (.sc (.bool true))])
theorem told{fn b p:Int}{s:vF}(hs:dR s)(hr:Real b)(hf:1<=fn/\fn<=3)(hp:1<=p/\p<=66000)(h1:dv (fL s)=(eE fn (aQ.kQ b) p).1)(h2:dv (fO s)=(eE fn (aQ.kQ b) p).2):Jw fn b p s.1 s.2.1 s.2.2.1 s.2.2.2.1 s.2.2.2.2.1 s.2.2.2.2.2=some [.s (.sc (.bool true))]:=by
 have nw:=bCD hr hf hp;have hl:=aXI hr hf hp;have on:=fun h=>bBZ (fn:=fn) (p:=p) hr h hp
 rw[<-h1,<-h2]at nw hl on;have hL:aW (s.1,s.2.1,s.2.2.1):=hs.1;have hH:aW (s.2.2.2.1,s.2.2.2.2.1,s.2.2.2.2.2):=hs.2.1;have lL:s.2.1.length<=8192:=hL.len;have lH:s.2.2.2.2.1.length<=8192:=hH.len;have e1:wv (s.1,s.2.1)=(dv (fL s)).1:=rfl;have e2:wv (s.2.2.2.1,s.2.2.2.2.1)=(dv (fO s)).1:=rfl;have e3:s.2.2.1=(dv (fL s)).2:=rfl;have e4:s.2.2.2.2.2=(dv (fO s)).2:=rfl;have pL:=hL.rB;have pH:=hH.rB;have bL:=pL.1;have bH:=pH.1;have xL:=pL.2.1;have xH:=pH.2.1;have c1:dv (s.1,s.2.1,s.2.2.1)=dv (fL s):=rfl;have c2:dv (s.2.2.2.1,s.2.2.2.2.1,s.2.2.2.2.2)=dv (fO s):=rfl;have hh:aW (s.1,s.2.1,s.2.2.1)/\aW (s.2.2.2.1,s.2.2.2.2.1,s.2.2.2.2.2)/\(1<=p/\p<=66000)/\wB.Jc fn b (dv (s.1,s.2.1,s.2.2.1)) (dv (s.2.2.2.1,s.2.2.2.2.1,s.2.2.2.2.2)) p 5 (p+100):=⟨hL,hH,hp,hl⟩;rw[c1]at bL xL;rw[c2]at bH xH;have k1:=fD bL;have k2:=fD bH;have z1:=dU bL (by decide);have z2:=dU bH (by decide);have zo:dP (isNeg 1,dg 1):=dU (z:=1) (k:=1) (by decide +kernel) (by decide);have zm:dP (isNeg (-1),dg 1):=dU (z:=-1) (k:=1) (by decide +kernel) (by decide);have vo:zv (isNeg 1,dg 1)=1:=iX 1;have vm:zv (isNeg (-1),dg 1)=-1:=iX (-1);have l1:(dg 1).length<=1048576:=by have:(dg 1).length<=1:=cU (by decide);omega
 rw[wA];refine(gP ⟨hs,nw⟩).trans ?_
 by_cases f3:fn=3
 ·rw[gG f3];exact gP hh
 ·obtain⟨o1,o2⟩:=on (by omega);rw[nD f3,gP ⟨hL.Fh.gT,by omega⟩];simp only[aB,e1,e2,iX,vo,vm];rw[gP ⟨by decide,by decide⟩,gP ⟨z1,zm,by omega,l1,by omega,by decide,by decide⟩,e3,aN o1,gP ⟨hH.Fh.gT,by omega⟩,gP ⟨by decide,by decide⟩,gP ⟨z2,zo,by omega,l1,by omega,by decide,by decide⟩,e4,aN o2];exact gP hh
theorem spec(fn b p:Int)(s:vF)(e:Int)(h:(sp fn b p s e).1):aG E f15 aF [(pN .i64).put fn,(pN .u64).put b,(pN .i64).put p,tN.put s,(pN .i64).put e]=some (sp fn b p s e).2:=by
 obtain⟨hb,hs,he,h1,h2⟩:=h;refine(start fn b p s.1 s.2.1 s.2.2.1 s.2.2.2.1 s.2.2.2.2.1 s.2.2.2.2.2 e).trans ((gP hb).trans ?_);unfold sp;unfold aI.iJ at h1 h2;rw[gG he];have pt:∀i:Int,(i=0\/i=1)->dv (fL s)=(i,0)->dv (fO s)=(i,0)->(i=0\/i=1)/\dR (s.1,s.2.1,s.2.2.1,s.2.2.2.1,s.2.2.2.2.1,s.2.2.2.2.2)/\dv (fL (s.1,s.2.1,s.2.2.1,s.2.2.2.1,s.2.2.2.2.1,s.2.2.2.2.2))=(i,0)/\dv (fO (s.1,s.2.1,s.2.2.1,s.2.2.2.1,s.2.2.2.2.1,s.2.2.2.2.2))=(i,0):=fun i h a b=>⟨h,hs,a,b⟩
 by_cases c:bQ.pP fn b p=0
 ·rw[bG]at h1 h2;rw[gG c,gP hb,aB,<-Lg c];cases hz:bQ.Yh fn b p with
  |true =>
   rw[hz,cond_true]at h1 h2;rw[bT]
   by_cases f2:fn=2
   ·rw[if_pos f2]at h1 h2;rw[cL f2];exact gP (pt 1 (Or.inr rfl) h1 h2)
   ·rw[if_neg f2]at h1 h2;rw[cO f2,nD f2];exact gP (pt 0 (Or.inl rfl) h1 h2)
  |false =>
   rw[hz,cond_false]at h1 h2;obtain⟨hf,hp,v0,v3,v4⟩:=aI.told c hz;have hr:Real b:=⟨hb,v0,v3,v4⟩;obtain⟨q1,q2⟩:=aSJ hr hf hp;have lL:s.2.1.length<=8192:=hs.1.len;have lH:s.2.2.2.2.1.length<=8192:=hs.2.1.len;have w1:M6.val s.2.1=(eE fn (aQ.kQ b) p).1.1.natAbs:=by rw[<-h1];exact(iT (s.1,s.2.1)).symm
   have w2:M6.val s.2.2.2.2.1=(eE fn (aQ.kQ b) p).2.1.natAbs:=by rw[<-h2];exact(iT (s.2.2.2.1,s.2.2.2.2.1)).symm
   have b1:bl (eE fn (aQ.kQ b) p).1.1.natAbs<=70000:=by omega
   have b2:bl (eE fn (aQ.kQ b) p).2.1.natAbs<=70000:=by omega
   have k1:=fD b1;have k2:=fD b2;have wp:i64.wrap (p+64)=p+64:=wrap_i64;rw[bF,gP ⟨hs.1.Fh.gT,by omega⟩,w1,w2,gP ⟨bA _,by omega⟩,aB,bD,wp,aN,gP ⟨hs.2.1.Fh.gT,by omega⟩,gP ⟨bA _,by omega⟩,aB,bD,aN];exact told hs hr hf hp h1 h2
 ·rw[if_pos c]at h1 h2;rw[nD c];exact gP (pt 0 (Or.inl rfl) h1 h2)
def aJ:dG:=orc5 (pN .i64) (pN .u64) (pN .i64) tN (pN .i64) sp
theorem ok:OK 15 aJ:=(dZ E aF (aA Df.ok (aA Uh.ok (aA wF.ok (aA Jm.ok (aA Ff.ok (aA rY.ok (aA Og.ok (aA aBH.ok (aA aAV.ok (aA Um.ok aE)))))))))) func15).bCB rfl spec
end Dd
namespace Ub
def E:=mE [(101,cD.aJ)] 11 [] [] []
def aF:=bd f64
theorem aU:Nk E aF:=nk
theorem start a b c:aG E f64 aF [D.s (sc (int i64 a)),D.s (sc (int u64 b)),D.s (sc (int i64 c))]=letI A:=cD.nO a b c;aO (cD.Dm a b c) (aC (isNeg A.fst) fun d=>aC (dg A.fst.natAbs) fun e=>aC (isNeg A.snd) fun f=>aC (dg A.snd.natAbs) fun g=>some [D.agg [sc (bool d),ints u32 e,sc (bool f),ints u32 g,sc (int i64 (cD.qC b c))]]):=eJ aU
def sp(fn b p:Int):Prop×List D:=(cD.Dm fn b p,[tA.aTS (cD.nO fn b p).1 (cD.nO fn b p).2 (cD.qC b p)])
theorem spec:sR E f64 aF (pN .i64) (pN .u64) (pN .i64) sp:=by
 intro fn b p h;have h:cD.Dm fn b p:=h;refine(start fn b p).trans ((gP h).trans ?_);simp only[aB];rfl
def aJ:dG:=orc3 (pN .i64) (pN .u64) (pN .i64) sp
theorem ok:OK 64 aJ:=(dZ E aF (aA cD.ok aE) func64).Cq rfl spec
end Ub
namespace qZ
def E:=mE [(34,Df.aJ),(36,wF.aJ),(64,Ub.aJ),(63,yI.aJ)] 28 [11,27] [] []
def aF:=bd f27
theorem aU:Nk E aF:=nk
theorem start a b:aG E f27 aF [D.s (sc (int i64 a)),D.s (sc (int u64 b))]=letI B:=cD.nO a b 4;letI A:=sc (int i64 0);aO (0<=b/\b<18446744073709551616) (aC (bQ.pP a b 1) fun c=>aD (c !=0) (some [D.s A,D.s (sc (int i64 c))]) (aO (0<=b/\b<18446744073709551616) (aC (b%9223372036854775808==(0:Int)) fun d=>aD d (aD (a==2) (some [D.s (sc (int i64 1)),D.s A]) (some [D.s A,D.s A])) (aO (cD.Dm a b 4) (aC (isNeg B.fst) fun e=>aC (dg B.fst.natAbs) fun f=>aO (dP (e,f)) (aC (cT (zv (e,f)) 0) fun g=>some [D.s (sc (int i64 g)),D.s A])))))):=eJ aU
def aYR(fn b:Int):Int:=if bQ.pP fn b 1≠0 then 0 else bif bQ.Yh fn b 1 then(if fn=2 then 1 else 0)else cT (cD.nO fn b 4).1 0
def sp(fn b:Int):Prop×List D:=(0<=b/\b<18446744073709551616,[.s (.sc (.int .i64 (aYR fn b))),.s (.sc (.int .i64 (bQ.pP fn b 1)))])
theorem spec:eR E f27 aF (pN .i64) (pN .u64) sp:=by
 intro fn b h;have h:0<=b/\b<18446744073709551616:=h;refine(start fn b).trans ((gP h).trans ?_);unfold sp aYR;rw[aB]
 by_cases c:bQ.pP fn b 1=0
 ·rw[bG,c,gG rfl,gP h,aB,<-Lg c];cases hz:bQ.Yh fn b 1 with
  |true =>
   rw[bT,cond_true]
   by_cases f2:fn=2
   ·rw[cL f2,if_pos f2]
   ·rw[cO f2,if_neg f2]
  |false =>
   obtain⟨hf,hp,v0,v3,v4⟩:=aI.told c hz;have tk:=Rr (p:=4) ⟨h,v0,v3,v4⟩ hf (by omega);have tb:=(wB.aII tk).1;rw[bF,cond_false,gP tk,aB,aB,gP (dU tb (by decide)),aB,iX]
 ·rw[if_pos c,nD c]
def aJ:dG:=orc2 (pN .i64) (pN .u64) sp
theorem ok:OK 27 aJ:=(dZ E aF (aA Df.ok (aA wF.ok (aA Ub.ok (aA yI.ok aE)))) func27).jR rfl spec
end qZ
end W
namespace M
open Go AI W
open Classical in
def kx (b:Int):Int:=if h:∃k,R.oY (R.qz (aQ.kQ b)) k then Classical.choose h else 0
theorem Cv{b:Int}(h:Real b):R.oY (R.qz (aQ.kQ b)) (kx b):=by
 obtain⟨k,hk⟩:=uO (w:=100) h.x (by omega);have e:∃k,R.oY (R.qz (aQ.kQ b)) k:=⟨k,hk.Mo⟩;unfold kx;rw[dif_pos e];exact Classical.choose_spec e
theorem Ep{fn b p:Int}(h:Real b)(hf:1<=fn/\fn<=3)(hp:1<=p/\p<=66000):bFL fn (aQ.kQ b) p (kx b):=by
 obtain⟨k,hk⟩:=uO (w:=p+80) h.x (by omega);rw[R.Lh h.x.fit (Cv h) hk.Mo];exact wU h.x hp hf hk
def vx(fn b:Int):Rat:=R.fv fn (R.qz (aQ.kQ b)) (kx b)
def nQ(fn b:Int):Rat:=if b%9223372036854775808=0 then(if fn=2 then 1 else 0)else vx fn b
def Fu(V:Rat):Int:=if 0<V then 1 else if V<0 then -1 else 0
theorem uP{fn b p:Int}(hb:0<=b/\b<18446744073709551616)(c:bQ.pP fn b p=0)(hz:¬b%9223372036854775808=0):Real b/\(1<=fn/\fn<=3)/\(1<=p/\p<=66000)/\bQ.Yh fn b p=false:=by
 have z:=Lg c;rw[beq_eq_false_iff_ne.2 hz]at z;obtain⟨hf,hp,v⟩:=aI.told c z;exact⟨⟨hb,v⟩,hf,hp,z⟩
theorem yC{fn b p:Int}(c:bQ.pP fn b p=0)(hz:bQ.Yh fn b p=false):aI.iJ fn b p=eE fn (aQ.kQ b) p:=by
 unfold aI.iJ;rw[bG,hz,cond_false]
theorem zI{fn b p:Int}(c:bQ.pP fn b p=0)(hz:b%9223372036854775808=0):aI.iJ fn b p=if fn=2 then((1,0),(1,0))else((0,0),(0,0)):=by
 unfold aI.iJ;have z:=Lg c;rw[beq_iff_eq.2 hz]at z;rw[bG,z,cond_true]
theorem aTM:R.qz (0,0)=0:=R.qH rfl
theorem zJ{fn b p:Int}(hb:0<=b/\b<18446744073709551616)(c:bQ.pP fn b p=0):R.qz (aI.iJ fn b p).1<=nQ fn b/\nQ fn b<=R.qz (aI.iJ fn b p).2:=by
 unfold nQ
 by_cases hz:b%9223372036854775808=0
 ·rw[zI c hz,if_pos hz]
  by_cases f:fn=2
  ·rw[if_pos f,if_pos f,nT];exact⟨cDM,cDM⟩
  ·rw[if_neg f,if_neg f,aTM];exact⟨cDM,cDM⟩
 ·obtain⟨hr,hf,hp,z⟩:=uP hb c hz;rw[yC c z,if_neg hz];have N:=(Ep hr hf hp).bx;have m0:=N.m0;have lo:=N.lo;have hi:=N.hi;unfold vx;constructor <;> grind
theorem p8{p:Int}(hp:1<=p):R.pz (-p-8)<=1/64:=by
 have h1:=R.cN (show -p-8<=-6 by omega);have h2:R.pz (-6)*64=1:=by
  have:=R.gE 0 (n:=6) (c:=64) (by norm_cast);rwa [R.fA]at this
 grind
theorem aMU:dQ (0,0) (0,0)=0:=by decide
theorem aCN{fn b p:Int}(hb:0<=b/\b<18446744073709551616)(c:bQ.pP fn b p=0):eQ.sE (aI.iJ fn b p).1 (aI.iJ fn b p).2=Fu (nQ fn b):=by
 unfold nQ Fu
 by_cases hz:b%9223372036854775808=0
 ·rw[zI c hz,if_pos hz]
  by_cases f:fn=2
  ·rw[if_pos f,if_pos f,if_pos (by grind)];exact Hj (by rw[nT];grind) cDM
  ·rw[if_neg f,if_neg f,if_neg (by grind),if_neg (by grind)];unfold eQ.sE;rw[aMU];decide
 ·obtain⟨hr,hf,hp,z⟩:=uP hb c hz;have N:=Ep (p:=p) hr hf hp;rw[yC c z,if_neg hz];obtain⟨_,_,_,_,sp,sn,V0⟩:=Bp N.bx (p8 hp.1) N.v0;have m0:=N.bx.m0;have lo:=N.bx.lo;have hi:=N.bx.hi;have v0:=N.v0;unfold vx
  by_cases g:0<R.fv fn (R.qz (aQ.kQ b)) (kx b)
  ·rw[if_pos g];exact Hj (sp g) (by grind)
  ·have g2:R.fv fn (R.qz (aQ.kQ b)) (kx b)<0:=by grind
   rw[if_neg g,if_pos g2];exact Se (sn g2)
theorem Lu{fn b:Int}(hb:0<=b/\b<18446744073709551616)(c:bQ.pP fn b 8=0):pU.Yz fn b=Fu (nQ fn b):=by
 unfold pU.Yz;rw[bG];exact aCN hb c
theorem Rq(fn b:Int):bQ.pP fn b 8=bQ.pP fn b 1:=by rw[tP,tP];rfl
theorem aYQ{fn b:Int}(hb:0<=b/\b<18446744073709551616)(c:bQ.pP fn b 1=0):qZ.aYR fn b=Fu (nQ fn b):=by
 unfold qZ.aYR nQ;rw[bG,Lg c]
 by_cases hz:b%9223372036854775808=0
 ·rw[beq_iff_eq.2 hz,cond_true,if_pos hz];unfold Fu
  by_cases f:fn=2
  ·rw[if_pos f,if_pos f,if_pos (by grind)]
  ·rw[if_neg f,if_neg f,if_neg (by grind),if_neg (by grind)]
 ·rw[beq_eq_false_iff_ne.2 hz,cond_false,if_neg hz];obtain⟨hr,hf,_,_⟩:=uP hb c hz;have tk:=Rr (p:=4) hr hf (by omega);have M:=Kg (fn:=fn) tk.2.2.1 (show(1:Int)<=4 by decide) rfl tk.2.2.2.2 hf;have ex:R.qz (dK.Ja b,dK.Ko b)=R.qz (aQ.kQ b):=by rw[Mh hr.1,Mi hr.1,hr.q]
  have ek:k7 (dK.Ja b) (dK.Ko b) (q7 (dK.Ja b) (dK.Ko b) 4)=kx b:=R.Lh hr.x.fit (by have:=M.Mo;rwa [ex]at this) (Cv hr);have lo:=M.lo;have hi:=M.hi;have wd:=M.wd;have v0:=M.ne;have eV:cD.nO fn b 4=Ia fn (dK.Ja b) (dK.Ko b) (q7 (dK.Ja b) (dK.Ko b) 4):=rfl;rw[ek,ex,<-eV]at lo hi wd;rw[ek,ex]at v0;unfold vx;generalize R.fv fn (R.qz (aQ.kQ b)) (kx b)=V at *;generalize (cD.nO fn b 4).1=l at *;generalize ((cD.nO fn b 4).2:Rat)=u at *;have pQ:=R.cY (q7 (dK.Ja b) (dK.Ko b) 4);generalize R.pz (q7 (dK.Ja b) (dK.Ko b) 4)=Q at *;have e4:R.pz 4=16:=by rw[show(4:Int)=((4:Nat):Int)from rfl,R.iF];norm_cast
  rw[e4]at wd;unfold Fu cT
  by_cases g:0<V
  ·rw[aNF g]at wd;have:=cCX pQ g;have lp:0<(l:Rat):=by grind
   have li:0<l:=by exact_mod_cast lp
   rw[if_pos g,bG,if_pos li]
  ·have g2:V<0:=by grind
   have:=cCX pQ (show 0 < -V by grind);have lp:(l:Rat)<0:=by grind
   have li:l<0:=by exact_mod_cast lp
   rw[if_neg g,if_pos g2,if_pos li]
theorem aFK{fn b:Int}(hb:0<=b/\b<18446744073709551616):pU.Yz fn b=qZ.aYR fn b:=by
 by_cases c:bQ.pP fn b 8=0
 ·rw[Lu hb c,aYQ hb (by rw[<-Rq];exact c)]
 ·unfold pU.Yz qZ.aYR;rw[if_pos c,if_pos (by rw[<-Rq];exact c)]
end M
namespace W
open Go AI M
namespace nY
def E:=mE [(18,pU.aJ),(13,aI.aJ),(15,Dd.aJ)] 39 [37] [] []
def aF:=bd f11
theorem aU:Nk E aF:=nk
theorem start:aG E f11 aF []=letI B:=aI.iJ 1 4607182418800017408 20;letI A:=aI.iJ 2 9223372036854775808 7;letI C:=(isNeg A.fst.fst,M6.dg A.fst.fst.natAbs,A.fst.snd,isNeg A.snd.fst,M6.dg A.snd.fst.natAbs,A.snd.snd);aO ((0:Int)<=(13835058055282163712:Int)/\(13835058055282163712:Int)<(18446744073709551616:Int)) (aO ((0:Int)<=(9223372036854775808:Int)/\(9223372036854775808:Int)<(18446744073709551616:Int)) (aO ((0:Int)<=(4607182418800017408:Int)/\(4607182418800017408:Int)<(18446744073709551616:Int)) (aC (isNeg B.fst.fst) fun a=>aC (M6.dg B.fst.fst.natAbs) fun b=>aC (isNeg B.snd.fst) fun c=>aC (M6.dg B.snd.fst.natAbs) fun d=>letI F:=(a,b,B.fst.snd,c,d,B.snd.snd);aD (pU.Yz 2 13835058055282163712 !=(-1:Int)) (some [D.s (sc (bool false))]) (aO (((0:Int)<=(9223372036854775808:Int)/\(9223372036854775808:Int)<(18446744073709551616:Int))/\dR (isNeg 1,M6.dg 1,(0:Int),isNeg 1,M6.dg 1,(0:Int))/\(0:Int)=(0:Int)/\dv (fL C)=A.fst/\dv (fO C)=A.snd) (aO (((0:Int)<=(4607182418800017408:Int)/\(4607182418800017408:Int)<(18446744073709551616:Int))/\dR F/\(0:Int)=(0:Int)/\dv (fL F)=B.fst/\dv (fO F)=B.snd) (some [D.s (sc (bool true))])))))):=eJ aU
theorem e1:aI.iJ 2 9223372036854775808 7=((1,0),(1,0)):=by
 rw[zI (by rw[tP];decide) (by decide),if_pos rfl]
theorem aPL:aQ.kQ 13835058055282163712=(-1,1):=by
 have e1:gO.wH 64 13835058055282163712=-(1*p2 52):=by decide
 have e2:gO.wZ 64 13835058055282163712=-51:=by decide
 unfold aQ.kQ;rw[e1,e2,Wa,aQJ _ _ (by omega)];show(-(bV 1 (-51+52)).1,(bV 1 (-51+52)).2)=_;rw[Qo (p:=(1,-51+52)) (by decide) (by decide)];rfl
theorem aTK:Real 13835058055282163712:=by
 refine⟨by decide,?_⟩;rw[Nt];decide
theorem bQN:pU.Yz 2 13835058055282163712=-1:=by
 have c:bQ.pP 2 13835058055282163712 8=0:=by rw[tP];decide
 rw[Lu (by decide) c];unfold nQ;rw[if_neg (by decide)];have nk:=Cv aTK;have x2:R.qz (aQ.kQ 13835058055282163712)=-2:=by
  rw[aPL];show((-1:Int):Rat)*R.pz 1=-2;rw[R.Ho,show((-1:Int):Rat)=-1 by norm_cast];grind
 obtain⟨p1,p2⟩:=R.mR;have m1:((-1:Int):Rat)=-1:=by norm_cast
 have k1:kx 13835058055282163712=-1:=by
  refine R.Lh aTK.x.fit nk ?_;rw[x2];unfold R.oY;rw[R.dJ,m1];constructor <;> grind
 unfold vx;rw[k1,x2];have eV:R.fv 2 (-2) (-1)=R.sn (-2-((-1:Int):Rat)*(R.pi/2)):=rfl;rw[eV,m1];obtain⟨r,hr⟩:∃r,r=(-2:Rat) - -1*(R.pi/2):=⟨_,rfl⟩;rw[<-hr];have r0:r<0:=by grind
 have r1:R.ab r<=1:=by rw[R.dJ];constructor <;> grind
 have s:=R.Yw (x:=0) (y:=r) (by rw[R.bW cDM];grind) r1;rw[R.dJ,R.aPT,show r-0=r by grind,aEZ r0]at s;have:R.sn r<0:=by grind
 unfold Fu;rw[if_neg (by grind),if_pos this]
def sp:Prop×List D:=(True,[.s (.sc (.bool true))])
theorem spec(h:sp.1):aG E f11 aF []=some sp.2:=by
 refine start.trans ?_;rw[e1,bQN,gP ⟨by decide,by decide⟩,gP ⟨by decide,by decide⟩,gP ⟨by decide,by decide⟩,aB,aB,aB,aB,gG rfl];have q1:dR (uF (1,0) (1,0)):=⟨eI aI.aDB,eI aI.aDB,Ib _⟩;have q2:dR (uF (aI.iJ 1 4607182418800017408 20).1 (aI.iJ 1 4607182418800017408 20).2):=aI.yB (by decide);refine(gP ⟨⟨by decide,by decide⟩,q1,rfl,jU _ _,jV _ _⟩).trans ?_;refine(gP ⟨⟨by decide,by decide⟩,q2,rfl,jU _ _,jV _ _⟩).trans rfl
def aJ:dG:=orc0  sp
theorem ok:OK 11 aJ:=(dZ E aF (aA pU.ok (aA aI.ok (aA Dd.ok aE))) func11).bHN spec
end nY
end W
namespace AI
open Go Go.RowKit Go.ChangeShapes Go.WideShapes Go.ChangeAt
abbrev noX:Nat->Prop:=fun _=>False
theorem aEQ{w:World}{a:Addr}{v:Value}(h:w.cell? a=some v):a=⟨a.block,a.off,none⟩/\a.block<w.heap.size:=by
 unfold World.cell? at h;split at h
 ·rename_i c t fr hb;split at h
  ·cases h
  ·rename_i hs;obtain⟨b,o,s⟩:=a;cases s with
   |some x=>simp at hs
   |none=>exact⟨rfl,(Array.getElem?_eq_some_iff.1 hb).1⟩
 ·cases h
theorem aNE{b o:Nat}(i:Nat):(⟨b,o,none⟩:Addr).add i=⟨b,o+i,none⟩:=by
 unfold Addr.add;split
 ·rename_i h;subst h;rfl
 ·rfl
section
variable {H:Type} {enc:TypeId×Value->H} {P:Program} {w:World} {held:Bool} {sp:Nat->Bool}
def Tl(P:Program)(fs:Array Field)(ks:List IntKind):Bool :=
 Nat.beq fs.size ks.length&&(List.range ks.length).all fun i=>match fs[i]?,ks[i]? with
  |some f,some k=>(match P.underlying f.type with |some (.int k')=>decide (k'=k) |_=>false)&&(Nat.beq (P.cellsOf f.type) 1&&Nat.beq f.offset i)
  |_,_=>false
def Zl:Value->Int
 | .int _ n=>n
 |_=>0
def aBO(ks:List IntKind)(ns:List Int):Prop:=ns.length=ks.length/\∀(i:Nat) k,ks[i]?=some k->(Lit.int k (ns.getD i 0)).wf=true
theorem Vm{t:TypeId}{fs:Array Field}{ks:List IntKind}{fuel:Nat}{cs:List Value}{x:DataW H×List MemPlace}(ht:P.underlying t=some (.struct fs))(hk:Tl P fs ks=true)(hc:P.cellsOf t=ks.length)
  (h:DataW.trod enc P w 0 sp held fuel t cs=some x):∃ns:List Int,aBO ks ns/\cs.length=ks.length/\∀(i:Nat) k,ks[i]?=some k->cs[i]?=some (.int k (ns.getD i 0)):=by
 obtain⟨xs,n,_,_,hl,Dj,hf⟩:=DataW.trod_struct ht h;unfold Tl at hk;rw[bXN]at hk;have uR:=bXT hk.1;have key:∀(i:Nat) k,ks[i]?=some k->∃m,cs[i]?=some (.int k m)/\(Lit.int k m).wf=true:=by
  intro i k hi;have jM:i<ks.length:=(List.getElem?_eq_some_iff.1 hi).1;have h1:=List.all_eq_true.1 hk.2 i (List.mem_range.2 jM);have bGH:fs[i]?=some fs[i]:=Array.getElem?_eq_getElem (by omega);rw[bGH,hi]at h1;simp only[bXN]at h1;obtain⟨h2,h3,h4⟩:=h1;have h3:=bXT h3;have h4:=bXT h4;have h5:=hf i _ bGH;rw[h3,h4]at h5;have hx:xs[i]?=some xs[i]:=bXY (by omega);rw[hx]at h5;cases hu:P.underlying fs[i].type with
  |none=>rw[hu]at h2;cases h2
  |some d =>
   rw[hu]at h2;cases d with
   |int k' =>
    have bTI:k'=k:=of_decide_eq_true h2;subst bTI;obtain⟨m,e1,_,e3⟩:=DataW.trod_int hu h5;refine⟨m,?_,e3⟩;have:((cs.drop i).take 1)[0]?=some (.int k' m):=by rw[e1];rfl
    rw[cBE,aT,bXV]at this;simpa using this
   |_=>cases h2
 refine⟨cs.map Zl,⟨by rw[List.length_map,hl,hc],fun i k hi=>?_⟩,by rw[hl,hc],fun i k hi=>?_⟩
 ·obtain⟨m,e1,e2⟩:=key i k hi;have:(cs.map Zl).getD i 0=m:=by rw[cCQ,bXM,e1];rfl
  rw[this];exact e2
 ·obtain⟨m,e1,e2⟩:=key i k hi;have:(cs.map Zl).getD i 0=m:=by rw[cCQ,bXM,e1];rfl
  rw[this];exact e1
def rowS(ks:List IntKind)(ns:List Int):List S:=(List.range ks.length).map fun i=>S.sc (.int (ks.getD i .i64) (ns.getD i 0))
theorem rep_rows{t e:TypeId}{fs:Array Field}{ks:List IntKind}{fuel:Nat}{A:Option Addr}{len cap:Nat}{x:DataW H×List MemPlace}(ht:P.underlying t=some (.slice e))(he:P.underlying e=some (.struct fs))(hk:Tl P fs ks=true)(hc:P.cellsOf e=ks.length)(bOE:0<ks.length)
  (h:DataW.trod enc P w 0 sp held fuel t [.slice A len cap]=some x):∃g:Nat->List Int,oW noX w (.rows ks.length len fun i=>rowS ks (g i)) (.slice A len cap)/\len<=9223372036854775807/\∀i,i<len->aBO ks (g i):=by
 rcases DataW.trod_slice ht h with ⟨Nd,_⟩ |⟨a,l,c,elems,rest,n,_,Nd,_,_,hl,hm,bOJ,Wy,_,_⟩
 ·simp at Nd;obtain⟨rfl,rfl,rfl⟩:=Nd;exact⟨fun _=>[],⟨none,0,rfl,by simp,fun i hi=>by omega⟩,by simp,fun i hi=>by omega⟩
 ·simp at Nd;obtain⟨rfl,rfl,rfl⟩:=Nd;have one:∀i,i<len->∃ns:List Int,aBO ks ns/\∀(j:Nat) k,ks[j]?=some k->w.cell? (a.add (i*ks.length) |>.add j)=some (.int k (ns.getD j 0)):=by
   intro i hi;have h1:=Wy i hi;rw[hc]at h1;have hx:elems[i]?=some elems[i]:=bXY (by omega);rw[hx]at h1;obtain⟨cs,h2,h3⟩:=Option.bind_eq_some_iff.1 h1;obtain⟨ns,h4,h5,h6⟩:=Vm he hk hc h3;refine⟨ns,h4,fun j k hj=>?_⟩;have jM:j<ks.length:=(List.getElem?_eq_some_iff.1 hj).1;rw[(World.cells?_some h2).2.2 j jM,h6 j k hj]
  obtain⟨g,hg⟩:∃g:Nat->List Int,∀i,i<len->aBO ks (g i)/\∀(j:Nat) k,ks[j]?=some k->w.cell? (a.add (i*ks.length) |>.add j)=some (.int k ((g i).getD j 0)):=by
   refine⟨fun i=>if hi:i<len then Classical.choose (one i hi)else [],fun i hi=>?_⟩;simp only[dif_pos hi];exact Classical.choose_spec (one i hi)
  have bTD:cap<=9223372036854775807:=hm;refine⟨g,⟨some a,cap,rfl,hl,fun i hi=>?_⟩,by omega,fun i hi=>(hg i hi).1⟩;refine⟨by unfold rowS;simp,?_⟩;have aGA:ks[0]?=some ks[0]:=bXY bOE;have h0:=(hg 0 (by omega)).2 0 _ aGA;rw[Nat.zero_mul,show a.add 0=a by unfold Addr.add;rw[if_pos rfl],show a.add 0=a by unfold Addr.add;rw[if_pos rfl]]at h0;obtain⟨e1,e2⟩:=aEQ h0;refine⟨a.block,a.off,by rw[<-e1],fun j s hs=>⟨e2,id,?_⟩⟩;unfold rowS at hs;rw[bXM]at hs;obtain⟨j',bJP,rfl⟩:=Option.map_eq_some_iff.1 hs;have aDO:j<ks.length:=by have:=(List.getElem?_eq_some_iff.1 bJP).1;simpa using this
  have:j'=j:=by rw[List.getElem?_range aDO]at bJP;exact(Option.some.inj bJP).symm
  subst this;have bOD:ks[j']?=some ks[j']:=bXY aDO;have h2:=(hg i hi).2 j' _ bOD;rw[e1,aNE,aNE]at h2;refine⟨_,h2,?_⟩;have:ks.getD j' .i64=ks[j']:=by rw[cCQ,bOD];rfl
  rw[this];exact⟨rfl,rfl⟩
theorem glob_ints{name:String}{g:Nat}{t e:TypeId}{k:IntKind}{n fuel:Nat}{ns:List Int}{cs:Array Value}{p:List MemPlace}(hg:P.globalNamed name=some g)(hv:w.var? P name=some cs)(ht:P.underlying t=some (.array n e))(he:P.underlying e=some (.int k))(hc:P.cellsOf e=1)(hn:ns.length=n)(aHQ:0<n)
  (hd:DataW.trod enc P w 0 sp held fuel t cs.toList=some (.agg (ns.map fun m=>.lit (.int k m)),p)):g<w.heap.size/\¬noX g/\vB noX w g 0 (xW k ns):=by
 obtain⟨xs,m1,_,hx,_,Dj,bOJ⟩:=DataW.trod_array ht hd;simp only[Prod.mk.injEq,DataW.agg.injEq]at hx;have cell:∀i v,ns[i]?=some v->w.cell? ⟨g,i,none⟩=some (.int k v):=by
  intro i v hi;have jM:i<n:=by have:=(List.getElem?_eq_some_iff.1 hi).1;omega
  have h1:=bOJ i jM;have bND:xs[i]?=some xs[i]:=bXY (by omega);rw[bND,hc,bYB]at h1;obtain⟨m,e1,e2,_⟩:=DataW.trod_int he h1;have h2:=congrArg (fun l=>l[i]?) hx.1;simp only[bXM,hi,bND,e2,Option.map_some]at h2;have bTB:v=m:=by simpa using h2
  subst bTB;have h3:((cs.toList.drop i).take 1)[0]?=some (.int k v):=by rw[e1];rfl
  rw[cBE,aT,bXV]at h3;have h4:=World.var?_cell hg hv i;rw[h4];simpa using h3
 have h0:ns[0]?=some ns[0]:=bXY (by omega);have hb:=(aEQ (cell 0 _ h0)).2;refine⟨hb,id,fun i s hs=>⟨hb,id,?_⟩⟩;unfold xW at hs;rw[bXM]at hs;obtain⟨v,bSE,rfl⟩:=Option.map_eq_some_iff.1 hs;refine⟨_,by rw[bXL];exact cell i v bSE,rfl,rfl⟩
end
theorem wf64{n:Int}(h:(Lit.int .u64 n).wf=true):0<=n/\n<18446744073709551616:=by
 have h2:u64.min<=n/\n<=u64.max:=by simpa [Lit.wf] using h
 have e1:u64.min=0:=rfl;have e2:u64.max=18446744073709551615:=rfl;omega
theorem calls_true{P:Program}{G:Nat->Option (IntKind×List Int)}{f:FuncId}{ds:List D}(hc:Contract P G f ds [.s (.sc (.bool true))]){w:World}{vs:List Value}(hG:GlobOk G noX w)(hl:ds.length=vs.length)
  (hr:∀(i:Nat) (d:D) (v:Value),ds[i]?=some d->vs[i]?=some v->oW noX w d v):Calls P f vs.toArray w fun e w'=>e=.returned (.bool true)/\Below w.heap.size w w':=by
 refine(hc noX w vs (fun _ h=>h.elim) hG hl hr).mono ?_;rintro e w' ⟨Ag,rfl,hb,g,hl,_,hr⟩
 match Ag,hl with
 | [v],_ =>
  have:=hr 0 _ v rfl rfl;obtain⟨rfl,_⟩:=this;exact⟨rfl,hb⟩
end AI
end Go.Proofs.YtaajbopgknekmaaGreatDoor
end
