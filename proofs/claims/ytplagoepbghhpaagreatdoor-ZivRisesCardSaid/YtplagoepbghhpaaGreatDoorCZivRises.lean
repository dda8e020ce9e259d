/- The ladder: the rounded function rises and falls as the function does. -/
import Derived.Test.YtplagoepbghhpaaGreatDoorRows
import Derived.Test.YtplagoepbghhpaaGreatDoorTie
import Derived.Test.YtplagoepbghhpaaGreatDoorCards
import Derived.WalkKit
import Derived.ProofKit
import Derived.OpenShut
import Derived.LaidMore
import Derived.Stop.Joined
import Derived.Carry
import Derived.SevenTiedAt
import Derived.Test.YtplagoepbghhpaaGreatDoorBZivRises6
namespace Go.Proofs.YtplagoepbghhpaaGreatDoor.zivRises
open Go Go.ChangeShapes Go.WideShapes Go.ChangeAt Go.RowKit Go.Proofs.YtplagoepbghhpaaGreatDoor.AI
theorem own:ownKnob Tryz.prog.godebug=none:=by kernel_rfl
abbrev laids:List (String×DataW Unit):=[("math/bits.deBruijn64tab",Rows.laid_math_bits_deBruijn64tab)]
theorem door_met(os:Os)(args:Array Value):laidMetH Tryz.prog laids ((World.doorLaid Tryz.prog 4000 os).forCall (fun _ _=>0) ⟨#[],args,[]⟩).memory :=
 laidMetH_of_parts3 (fuel:=8) (laidMet_of_run' 8 (by kernel_rfl) (by kernel_rfl)) (by kernel_rfl) (by kernel_rfl)
theorem globs_ok{W1:World}(h:laidMetH Tryz.prog laids W1):GlobOk W.globs noX W1:=by
 rw[MakeChecks.laidMetH_plain _ _ _ (by kernel_rfl)]at h
 obtain⟨ps,⟨g0,t0,cs0,f0,p0,q0,hg0,ht0,hv0,hd0,_,_⟩,_,_⟩:=h
 obtain rfl:=Option.some.inj ((show Tryz.prog.globalNamed "math/bits.deBruijn64tab"=some 0 by kernel_rfl).symm.trans hg0)
 obtain⟨T0,hT0⟩:∃T,T=(Tryz.prog.globals[0]?).map (·.type):=⟨_,rfl⟩
 have e0:t0=241:=Option.some.inj (ht0.symm.trans (show(Tryz.prog.globals[0]?).map (·.type)=some 241 by kernel_rfl))
 subst e0
 have k0:=glob_ints (k:=.u8) (n:=64) (ns:=[0,1,56,2,57,49,28,3,61,58,42,50,38,29,17,4,62,47,59,36,45,43,51,22,53,39,33,30,24,18,12,5,63,55,48,27,60,41,37,16,46,35,44,21,52,32,23,11,54,26,40,15,34,20,31,10,25,14,19,9,13,8,7,6]) hg0 hv0 Tryz.underlying241 Tryz.underlying5 (by kernel_rfl) rfl (by decide) hd0
 intro g k ns hg
 unfold W.globs at hg
 cases hb0:Nat.beq g 0 with
 |true =>
  rw[hb0]at hg
  obtain rfl:=Nat.eq_of_beq_eq_true hb0
  simp only[cond_true,Option.some.injEq,Prod.mk.injEq]at hg
  obtain⟨rfl,rfl⟩:=hg
  exact k0
 |false =>
 rw[hb0,cond_false]at hg
 cases hg
set_option maxRecDepth 100000 in
theorem lifted(os:Os)(started:os.Started)(H:Type)(enc:TypeId×Value→H) :
  ReturnsInHanded {} Tryz.checked os 8 .any (fun w args=>(Rows.zivRisesSpec.pre enc Tryz.prog Tryz.f8 [] false w args∧laidMetH Tryz.prog laids w)∧sizedMet enc Tryz.prog Tryz.f8 (OpenSpec.ofChange Rows.zivRisesSpec) false w args) (Rows.zivRisesSpec.post enc Tryz.prog Tryz.f8 false true false false):=by
 refine returnsInHanded_of_change_and (C:=Tryz.checked) (X:=fun w _=>laidMetH Tryz.prog laids w) (fun _ _ _ hh h=>h.of_heap hh) own started (by kernel_rfl) Tryz.func8
  (ChangeSpec.witness_shaped (enc:=enc) (C:=Tryz.checked) (os:=os) (X:=fun w _=>laidMetH Tryz.prog laids w) false (World.doorLaid Tryz.prog 4000 os) #[.int .i64 0,.int .i64 0,.int .u64 0,.int .u64 0] 8 rfl (World.shaped_of_RefB (by kernel_rfl) (by kernel_rfl)) (by kernel_rfl) (by kernel_rfl) (by kernel_rfl) (door_met os _)) ?_
 intro W1 base args ds gs before hval0 hW _ _ hL _
 have hval:∀(j:Nat) t v,Tryz.f8.params[j]?=some t→args[j]?=some v→Value.okWide Tryz.prog W1 .any base t v:=hval0
 have hW':=hW
 obtain⟨p,q,hA0,hV,rfl,hfz,hnd⟩:=hW
 have hA:DataW.TrodAll enc Tryz.prog W1 0 (fun _=>true) true Tryz.f8.params.toList args.toList ds p:=hA0
 rw[Tryz.params8]at hA hval
 obtain⟨v0,vs0,d0,ds0,p0,q0,hargs,rfl,rfl,h0,r0⟩:=trodAll_cons hA
 obtain⟨v1,vs1,d1,ds1,p1,q1,rfl,rfl,rfl,h1,r1⟩:=trodAll_cons r0
 obtain⟨v2,vs2,d2,ds2,p2,q2,rfl,rfl,rfl,h2,r2⟩:=trodAll_cons r1
 obtain⟨v3,vs3,d3,ds3,p3,q3,rfl,rfl,rfl,h3,r3⟩:=trodAll_cons r2
 obtain⟨rfl,rfl,rfl⟩:=trodAll_nil r3
 obtain rfl:args=#[v0,v1,v2,v3]:=by cases args;simp_all
 obtain⟨rfl,rfl⟩:=trodVars_none hV
 obtain⟨a0,rfl,rfl,rfl,x0⟩:=open_int Tryz.underlying3 (hval 0 3 v0 rfl rfl) h0
 obtain⟨a1,rfl,rfl,rfl,x1⟩:=open_int Tryz.underlying3 (hval 1 3 v1 rfl rfl) h1
 obtain⟨a2,rfl,rfl,rfl,x2⟩:=open_int Tryz.underlying22 (hval 2 22 v2 rfl rfl) h2
 obtain⟨a3,rfl,rfl,rfl,x3⟩:=open_int Tryz.underlying22 (hval 3 22 v3 rfl rfl) h3
 clear hA0 hval0
 have hG:=globs_ok hL
 simp only[List.append_nil]at hW'
 have hc:Contract Tryz.prog W.globs 8 [.s (.sc (.int .i64 a0)),.s (.sc (.int .i64 a1)),.s (.sc (.int .u64 a2)),.s (.sc (.int .u64 a3))] [.s (.sc (.bool true))]:=by
  exact fn_contract W.LawZRises.fnok.ty W.LawZRises.fnok.calls W.LawZRises.fnok.mix W.LawZRises.fnok.fnc W.LawZRises.fnok.body W.LawZRises.fnok.nt W.LawZRises.fnok.io (Nat.le_of_ble_eq_true rfl) (W.LawZRises.spec a0 a1 a2 a3 ⟨wf64 x2,wf64 x3⟩)
 refine(calls_true hc (vs:=[.int .i64 a0,.int .i64 a1,.int .u64 a2,.int .u64 a3]) hG rfl ?_).mono fun e W2 ⟨he,bel⟩=>?_
 ·intro i d v h1 h2
  match i with
  |0=>simp at h1 h2;subst h1;subst h2;exact⟨rfl,rfl⟩
  |1=>simp at h1 h2;subst h1;subst h2;exact⟨rfl,rfl⟩
  |2=>simp at h1 h2;subst h1;subst h2;exact⟨rfl,rfl⟩
  |3=>simp at h1 h2;subst h1;subst h2;exact⟨rfl,rfl⟩
  |i+4=>simp at h1
 ·subst he
  exact⟨_,rfl,_,_,_,[],_,[],hW',trodAll_mk1 (shut_bool Tryz.underlying4 _),(trodAll_cons_mk (shut_int Tryz.underlying3 x0) (trodAll_cons_mk (shut_int Tryz.underlying3 x1) (trodAll_cons_mk (shut_int Tryz.underlying22 x2) (trodAll_cons_mk (shut_int Tryz.underlying22 x3) trodAll_mk0)))),rfl,bel.frame _,fun h=>by cases h⟩
set_option linter.unusedVariables false
noncomputable abbrev jP:Program:=Tryz.prog
noncomputable abbrev jF:FuncId:=8
noncomputable abbrev jN:Func:=Tryz.f8
noncomputable abbrev jS:ChangeSpec:=Rows.zivRisesSpec
noncomputable abbrev jC:OpenClaim:=Rows.zivRisesRow
theorem j0:(jC.wf (OpenSpec.ofChange jS):Bool)=true:=by kernel_rfl
theorem j1:(laidOutB jP:Bool)=true:=by kernel_rfl
theorem j2:(mapsRowed jP:Bool)=true:=by kernel_rfl
theorem j3:(jN.params.all (jP.readableRec ·):Bool)=true:=by kernel_rfl
theorem j4:(namedTie jP jC.named jS.vars:Bool)=true:=by kernel_rfl
theorem j5:((jC.stops==[]):Bool)=true:=by kernel_rfl
theorem j6:((jP.stops==[]):Bool)=true:=by kernel_rfl
theorem j7:((jC.knobs==[]):Bool)=true:=by kernel_rfl
theorem j8:((jP.stopKnobs==[]):Bool)=true:=by kernel_rfl
theorem j9:((jC.inPlace==jP.inPlace jF):Bool)=true:=by kernel_rfl
theorem j10:((jC.unfollowed==jP.unfollowed jF):Bool)=true:=by kernel_rfl
theorem j11:((jC.recurses==jP.recurses jF):Bool)=true:=by kernel_rfl
theorem j12:((jC.named==jP.varsNamed jF):Bool)=true:=by kernel_rfl
theorem j13:((jC.maps==(jN.params.toList ++ jS.plain.varTypes jP).any (jP.mapsRec ·)):Bool)=true:=by kernel_rfl
theorem j14:((jC.ifaces==(jN.params.toList ++ jS.plain.varTypes jP).any (jP.ifacesRec ·)):Bool)=true:=by kernel_rfl
theorem j15:((jC.mapsOut==jP.mapsAmong jN.resultTypes.toList):Bool)=true:=by kernel_rfl
theorem j16:((jC.loops==(jN.params.toList ++ jS.plain.varTypes jP).any (jP.loopsFrom ·)):Bool)=true:=by kernel_rfl
theorem j17:((jC.wideKeys==(jN.params.toList ++ jS.plain.varTypes jP ++ jN.resultTypes.toList).any (jP.wideKeysFrom ·)):Bool)=true:=by kernel_rfl
theorem j18:(jS.vars.all (jP.varReadable ·):Bool)=true:=by kernel_rfl
theorem j19:(jN.resultTypes.all (fun t=>jP.readableRec t&&decide (t<jP.types.size)):Bool)=true:=by kernel_rfl
theorem j20:((jC.ifacesOut==jN.resultTypes.toList.any (jP.ifacesRec ·)):Bool)=true:=by kernel_rfl
theorem j21:((jC.loopsOut==jN.resultTypes.toList.any (jP.loopsFrom ·)):Bool)=true:=by kernel_rfl
theorem j22:((jC.plainKeys==jP.plainKeys):Bool)=true:=by kernel_rfl
theorem j23:(jC.shortTexts.isNone:Bool)=true:=by kernel_rfl
theorem j24:(jP.stopsHeard:Bool)=true:=by kernel_rfl
theorem j25:(jP.mayEnter:Bool)=true:=by kernel_rfl
theorem j26:((jC.lifted==jP.liftsFinal):Bool)=true:=by kernel_rfl
theorem j27:((jP.make==some jC.make):Bool)=true:=by kernel_rfl
theorem j28:((jC.kinds==(if jC.domain.isEmpty then []else jN.params.toList.map fun t=>match jP.underlying t with |some (.int k)=>some k |_=>none)):Bool)=true:=by kernel_rfl
theorem j29:((jC.pinned==jC.pinnedBy):Bool)=true:=by kernel_rfl
theorem j30:((jC.veiled==(jN.params.toList ++ jS.plain.varTypes jP ++ jN.resultTypes.toList).any (jP.veiledRec ·)):Bool)=true:=by kernel_rfl
theorem j31:(jC.veiledFits jP jN.params.toList (jN.params.toList ++ jS.plain.varTypes jP ++ jN.resultTypes.toList):Bool)=true:=by kernel_rfl
theorem andT{a b:Bool}(ha:a=true)(hb:b=true):(a&&b)=true:=by rw[ha,hb];rfl
set_option maxRecDepth 100000 in
theorem joined:joinedFacts jP jF jN jS jC=true:=by unfold joinedFacts;exact(andT (andT (andT (andT (andT (andT (andT (andT (andT (andT (andT (andT (andT (andT (andT (andT (andT (andT (andT (andT (andT (andT (andT (andT (andT (andT (andT (andT (andT (andT (andT j0 j1) j2) j3) j4) j5) j6) j7) j8) j9) j10) j11) j12) j13) j14) j15) j16) j17) j18) j19) j20) j21) j22) j23) j24) j25) j26) j27) j28) j29) j30) j31)
theorem nm:Tryz.prog.funcNamed "gnomon/gnomonlaw18.ZivRises"=some 8:=by kernel_rfl
theorem inst:Tryz.f8.isInstance Tryz.prog jC.origin jC.targs:=of_decide_eq_true (by kernel_rfl)
theorem wrap:Tryz.f8.isWrapper Tryz.prog jC.wrapper jC.mainSum:=by unfold Func.isWrapper;first | (rw[if_pos (by decide +kernel)];kernel_rfl) | (rw[if_neg (by decide +kernel)];exact⟨rfl,rfl⟩)
theorem over:Rows.zivRisesRow.holds Tryz.pinned (OpenSpec.ofChange Rows.zivRisesSpec) :=
 OpenClaim.holds_of_wide 8 Tryz.f8 rfl rfl rfl rfl rfl rfl rfl ⟨rfl,rfl,rfl,rfl,rfl⟩ rfl rfl rfl rfl rfl nm Tryz.func8 joined inst wrap
  (fun os started H enc _=>lifted os started H enc)
theorem c0:jC.wfByText (OpenSpec.ofChange jS)=true:=by kernel_rfl
theorem c1:Tryz.pinned.checked.prog.mainIs=some (true,("f60eae42a091c11c7e0314fd38a91fdc317be189011074e2bf3b49ae53dcd58e":String).toList):=by kernel_rfl
theorem c2:true=Tryz.pinned.checked.prog.looks []:=by kernel_rfl
theorem c3:false=jC.goesBy Tryz.pinned.checked.prog:=by kernel_rfl
theorem c4:([3,3,22,22].all fun u=>!Tryz.prog.wantsStandIn u)=true:=by kernel_rfl
theorem proved:Rows.ZivRisesCardSaid :=
 Claim7.holds_tied_plain_at .later [] [.data] true (true,"f60eae42a091c11c7e0314fd38a91fdc317be189011074e2bf3b49ae53dcd58e") true
  over (fun _ h=>by cases h) c0 (fun _ h=>by cases h) zivRises_row_tie rfl ⟨rfl,rfl⟩ c1 rfl
  (fun f fn hf hfn=>by
   obtain rfl:f=8:=Option.some.inj (nm.symm.trans hf) |>.symm
   obtain rfl:fn=Tryz.f8:=(Option.some.inj (Tryz.func8.symm.trans hfn)).symm
   exact⟨c2,fun j t ht=>by
    rw[Tryz.params8]at ht
    have hm:t∈[3,3,22,22]:=by simpa using Array.mem_of_getElem? ht
    exact(show Tryz.prog.wantsStandIn t=false by simpa using List.all_eq_true.1 c4 t hm)⟩)
  c3
#print axioms proved
end Go.Proofs.YtplagoepbghhpaaGreatDoor.zivRises
