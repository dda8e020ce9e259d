/- Texts of the claim on TurnNiven, in their order: Ai14, Ai15, Ai16, Ai17, Ai18, M0, M1, M6, M2, M3, Ty, M4, M5, FNForm, FMForm, FDNought, FDForm, FClone, FDTwin, FNTrim, FNTold, FLen64, FNBits, FNShl, FMWhole, FMTold, FMShl, FNAdd, FNCmp, FNSub, FMAdd, FTz64, FNTrail. -/
import Derived.Laws.Externs
import Derived.Test.YtfebndgmmekmgaaGreatDoorProg
import Derived.KernelRfl
import Derived.Shelf.SlGeneric
import Derived.Ground.SlgnProg
import Derived.Shelf.SlicesE.Clone
import Derived.Test.YtfebndgmmekmgaaGreatDoorBTurnNiven1
/- A function: what the abstract interpreter tells of it is its contract. -/
namespace Go.Proofs.YtfebndgmmekmgaaGreatDoor.AI
open Go Go.RowKit

theorem hasBody_of {P : Program} {f : FuncId} {fn : Func} {c : Code} (hf : P.funcs[f]? = some fn) (hb : fn.body = some c) (hn : (fn.name == "runtime.NumGoroutine") = false) : HasBody P f := by
  intro vs w
  have hn' : ¬ fn.name = "runtime.NumGoroutine" := by simpa using hn
  simp [callFunc, hf, hb, hn']

theorem lmapM_run {α β : Type} {P : Program} {w : World} {f : α → Sem β} {g : α → β} : ∀ {l : List α}, (∀ x ∈ l, (f x).run P w = .ok (g x) w) → (l.mapM f).run P w = .ok (l.map g) w
  | [], _ => rfl
  | x :: l, h => by
    rw [List.mapM_cons, Sem.run_bind, h x (List.mem_cons_self ..), Result.andThen_ok, Sem.run_bind, lmapM_run fun y hy => h y (List.mem_cons_of_mem _ hy)]
    rfl

theorem mapM_run {α β : Type} {P : Program} {w : World} {f : α → Sem β} {g : α → β} {arr : Array α} (h : ∀ x ∈ arr.toList, (f x).run P w = .ok (g x) w) :
    (arr.mapM f).run P w = .ok (arr.toList.map g).toArray w := by
  rw [Array.mapM_eq_mapM_toList, map_eq_pure_bind, Sem.run_bind, lmapM_run h]
  rfl

section
variable {P : Program} {E : Env} {X : Nat → Prop} {w0 : World} {ρ : Nat → Nat} {al : Nat → Prop} {st : St} {a : Act} {w : World}

/-- What lies apart among the results of a function, by the block. -/
def ownOf (st : St) : ResultVar → Option Nat
  | .tmp t => match st.fr t with
    | .v (.one (.buf i _)) => some i
    | _ => none
  | .cell _ _ => none

def resRun (a : Act) : ResultVar → Sem Value
  | .tmp t => pure (a.tmps.getD t undef)
  | .cell d t => do loadVar t (← asAddr (a.tmps.getD d undef))

def Good (X : Nat → Prop) (base : Nat) (st : St) (ρ : Nat → Nat) (w : World) (r : ResultVar) (v : Value) : D → Prop
  | .own e k ns => ∃ i, ownOf st r = some i ∧ (∃ b, st.hp i = some b) ∧ OwnAt base w (ρ i) e k ns v
  | d => RepD (XO X ρ st.hp) w d v

theorem resD_sound (hT : TyOk P E.T) (h : Sim E X w0 ρ al st.fr st.hp a w) {r : ResultVar} {d : D} (hd : resD E st r = some d) :
    ∃ v, (resRun a r).run P w = .ok v w ∧ Good X w0.heap.size st ρ w r v d := by
  cases r with
  | tmp t =>
    have hr := h.fr t
    refine ⟨_, rfl, ?_⟩
    unfold resD at hd
    simp only at hd
    split at hd
    · rename_i cs hf
      cases hd
      rw [hf] at hr
      exact hr
    · rename_i x hf
      cases hd
      rw [hf] at hr
      exact hr
    · rename_i i n hf
      split at hd
      · rename_i e k ns hb
        cases hd
        rw [hf] at hr
        obtain ⟨cap, hv, hle, hc⟩ := hr
        obtain ⟨e1, e2, e3⟩ := hc _ k ns hb rfl
        obtain ⟨hw, arr, hg, hcs⟩ := h.blk i _ hb
        have hs : arr.size = cap := by unfold asize at e3; rw [hg] at e3; exact e3
        refine ⟨i, by simp [ownOf, hf], ⟨_, hb⟩, arr, by rw [hs, ← e1]; exact hv, hw, hg, hcs.1, by omega, hcs.2⟩
      · cases hd
    · cases hd
  | cell t ty =>
    have hr := h.fr t
    unfold resD at hd
    simp only at hd
    split at hd
    · rename_i i off ti hf hti
      rw [hf] at hr
      have hr : a.tmps.getD t undef = .pointer (some ⟨ρ i, off, none⟩) := hr
      split at hd
      · rename_i e cs hb
        obtain ⟨_, arr, hg, hcs⟩ := h.blk i _ hb
        have hl : ∀ x, partOf ti cs off = some x → ∃ v, (resRun a (.cell t ty)).run P w = .ok v w ∧ RepV ρ st.hp (XO X ρ st.hp) w x v ∧ refsV x = [] := by
          intro x hx
          obtain ⟨v, h1, h2, h3⟩ := load_at (P := P) (hT ty ti hti) (b := ρ i) (off := 0) (cs := cs) (fun j s hs => by
            obtain ⟨u, hu, hr⟩ := hcs.2 j s hs
            exact ⟨u, by rw [cell_of_row w (ρ i) _ arr e (0, 0) hg]; simpa using hu, hr⟩) hx (ρ := ρ) (hp' := st.hp)
          rw [Nat.zero_add] at h1
          refine ⟨v, ?_, h2, h3⟩
          unfold resRun
          rw [Sem.run_bind, hr]
          simpa [asAddr] using h1
        split at hd
        · rename_i cs' hx
          cases hd
          obtain ⟨v, h1, h2, _⟩ := hl _ hx
          exact ⟨v, h1, h2⟩
        · rename_i x hx
          cases hd
          obtain ⟨v, h1, h2, _⟩ := hl _ hx
          exact ⟨v, h1, h2⟩
        · cases hd
      · cases hd
    · cases hd

theorem mapM_all {α β : Type} {f : α → Option β} : ∀ {l : List α} {ys : List β}, l.mapM f = some ys → ys.length = l.length ∧ ∀ (i : Nat) (x : α), l[i]? = some x → ∃ y, ys[i]? = some y ∧ f x = some y
  | [], ys, h => by simp at h; subst h; simp
  | x :: l, ys, h => by
    rw [List.mapM_cons] at h
    cases hx : f x with
    | none => rw [hx] at h; cases h
    | some y =>
      cases hl : l.mapM f with
      | none => rw [hx, hl] at h; cases h
      | some ys' =>
        rw [hx, hl] at h
        cases h
        obtain ⟨h1, h2⟩ := mapM_all hl
        refine ⟨by simp [h1], fun i x' hi => ?_⟩
        match i with
        | 0 => simp at hi; subst hi; exact ⟨y, rfl, hx⟩
        | i + 1 => simp at hi; obtain ⟨y', e1, e2⟩ := h2 i x' hi; exact ⟨y', by simpa using e1, e2⟩

theorem ownIds_mem : ∀ {l : List ResultVar} {j : Nat} {r : ResultVar} {i : Nat}, l[j]? = some r → ownOf st r = some i → i ∈ ownIds st l
  | [], j, r, i, h, _ => by simp at h
  | r0 :: l, 0, r, i, h, ho => by
    simp at h; subst h
    cases r0 with
    | cell => cases ho
    | tmp t =>
      simp only [ownOf] at ho
      split at ho
      · rename_i i' n hf; cases ho; simp [ownIds, hf]
      · cases ho
  | r0 :: l, j + 1, r, i, h, ho => by
    have := ownIds_mem (l := l) (j := j) (by simpa using h) ho
    cases r0 with
    | cell => exact this
    | tmp t => simp only [ownIds]; exact List.mem_append_right _ this

theorem nodup_app : ∀ {xs ys : List Nat}, nodup (xs ++ ys) = true → nodup ys = true ∧ ∀ x ∈ xs, x ∉ ys
  | [], ys, h => ⟨h, by simp⟩
  | x :: xs, ys, h => by
    simp only [List.cons_append, nodup, Bool.and_eq_true] at h
    obtain ⟨h1, h2⟩ := nodup_app h.2
    refine ⟨h1, fun y hy => ?_⟩
    rcases List.mem_cons.1 hy with rfl | hy
    · intro hm
      have : (xs ++ ys).elem y = true := by simp [hm]
      rw [this] at h
      simp at h
    · exact h2 y hy

theorem ownIds_inj : ∀ {l : List ResultVar} {j j' : Nat} {r r' : ResultVar} {i : Nat}, nodup (ownIds st l) = true → l[j]? = some r → l[j']? = some r' → ownOf st r = some i → ownOf st r' = some i → j = j'
  | [], j, j', r, r', i, _, h, _, _, _ => by simp at h
  | r0 :: l, j, j', r, r', i, hn, h, h', ho, ho' => by
    have hrest : nodup (ownIds st l) = true := by
      cases r0 with
      | cell => exact hn
      | tmp t => simp only [ownIds] at hn; exact (nodup_app hn).1
    have hhead : ∀ r1, ownOf st r0 = some i → ∀ k : Nat, l[k]? = some r1 → ownOf st r1 = some i → False := by
      intro r1 h0 k hk h1
      have hm := ownIds_mem hk h1
      cases r0 with
      | cell => cases h0
      | tmp t =>
        simp only [ownOf] at h0
        split at h0
        · rename_i i' n hf
          cases h0
          simp only [ownIds, hf] at hn
          exact (nodup_app hn).2 i (by simp) hm
        · cases h0
    match j, j' with
    | 0, 0 => rfl
    | 0, j' + 1 => simp at h h'; subst h; exact (hhead r' ho j' h' ho').elim
    | j + 1, 0 => simp at h h'; subst h'; exact (hhead r ho' j h ho).elim
    | j + 1, j' + 1 => simp at h h'; exact congrArg (· + 1) (ownIds_inj hrest h h' ho ho')

theorem argFr_get : ∀ {ds : List D} {t : Nat}, (∃ d, ds[t]? = some d ∧ argFr ds t = argA d) ∨ argFr ds t = .any
  | [], _ => .inr rfl
  | d :: _, 0 => .inl ⟨d, rfl, rfl⟩
  | _ :: ds, t + 1 => by
    rcases argFr_get (ds := ds) (t := t) with ⟨d, h1, h2⟩ | h
    · exact .inl ⟨d, by simpa using h1, h2⟩
    · exact .inr h
end

theorem refs_argA (d : D) : refs (argA d) = [] := by cases d <;> rfl

theorem oneOf (vs : List Value) : (if h : vs.toArray.size = 1 then vs.toArray[0] else Value.tuple vs.toArray) = resV vs := by
  match vs with
  | [] => simp [resV]
  | [v] => simp [resV]
  | _ :: _ :: _ => simp [resV]

/-- THE CONTRACT OF A FUNCTION, by what the abstract interpreter tells of its text. -/
theorem fn_contract {P : Program} {E : Env} (hT : TyOk P E.T) (hC : CallsOk P E) (hm : P.follows .mixedOrders = true) {f : FuncId} {fn : Func} {c : Code} (hf : P.funcs[f]? = some fn) (hb : fn.body = some c) (hnt : E.nt = fn.ntmps)
    {ds rs : List D} (hle : ds.length ≤ fn.ntmps) (he : evalFn E fn c ds = some rs) : Contract P E.glob f ds rs := by
  intro Y w vs hY hG hlen hargs
  refine calls_of_wp hf hb ?_
  have hsim : Sim E Y w id (fun i => i < 0) (argFr ds) (fun _ => none) { tmps := vs.toArray ++ Array.replicate (fn.ntmps - vs.toArray.size) undef, defers := [] } w := by
    have hx : ∀ b, XO Y id (fun _ => none) b → Y b := by
      rintro b (h | ⟨i, bl, h, _⟩)
      · exact h
      · cases h
    have hl : Later Y w (XO Y id (fun _ => none)) w := ⟨Nat.le_refl _, fun b _ h => ⟨rfl, fun h' => h (hx b h')⟩⟩
    refine { fr := ?_, sz := by simp [hnt]; omega, nod := rfl, blk := (fun _ _ h => by cases h), inj := (fun _ _ _ _ h => by cases h), alh := (fun _ _ h => by cases h), alr := ?_, below := Below.refl _ _, x0 := hY, glob := hG }
    · intro t
      rcases argFr_get (ds := ds) (t := t) with ⟨d, h1, h2⟩ | h
      · rw [h2]
        have ht := getElem?_lt h1
        obtain ⟨v, hv⟩ := getElem?_of_lt (l := vs) (i := t) (by omega)
        have hr := (hargs t d v h1 hv).later hl
        have e : (vs.toArray ++ Array.replicate (fn.ntmps - vs.toArray.size) undef).getD t undef = v := by
          rw [Array.getD_eq_getD_getElem?, Array.getElem?_append_left (by simp; omega)]
          simp [hv]
        rw [e]
        cases d with
        | own e k ns => exact hr
        | _ => exact hr
      · rw [h]; trivial
    · intro t i hi
      rcases argFr_get (ds := ds) (t := t) with ⟨d, h1, h2⟩ | h
      · rw [h2, refs_argA] at hi; cases hi
      · rw [h] at hi; cases hi
  refine code_sound hT hC hm rs c _ _ _ id _ w hsim he ?_
  intro ex st ρ a' w' hK hs
  have hend : (∃ i, ex = .exit i) ∨ (nodup (ownIds st fn.results.toList) = true ∧ fn.results.toList.mapM (resD E st) = some rs) := by
    cases ex with
    | exit i => exact .inl ⟨i, rfl⟩
    | _ =>
      simp only [endK] at hK
      cases hn : nodup (ownIds st fn.results.toList) with
      | true => rw [hn] at hK; exact .inr ⟨rfl, hK⟩
      | false => rw [hn] at hK; cases hK
  rcases hend with ⟨i, rfl⟩ | ⟨hn, hrs⟩
  · cases hK
  have key : a'.defers = [] ∧ ∃ v, (results fn a'.tmps).run P w' = .ok v w' ∧ ∃ vs', Ending.returned v = .returned (resV vs') ∧ Below w.heap.size w w' ∧ RepRes Y w.heap.size w' rs vs' := by
    refine ⟨hs.nod, ?_⟩
    obtain ⟨hlen', hall⟩ := mapM_all hrs
    let good (r : ResultVar) (d : D) (v : Value) : Prop := (resRun a' r).run P w' = .ok v w' ∧ Good Y w.heap.size st ρ w' r v d
    have hex : ∀ r, ∃ v, ∀ d, resD E st r = some d → good r d v := by
      intro r
      cases hd : resD E st r with
      | none => exact ⟨undef, fun d h => by cases h⟩
      | some d =>
        obtain ⟨v, h1, h2⟩ := resD_sound hT hs hd
        exact ⟨v, fun d' h => by cases h; exact ⟨h1, h2⟩⟩
    obtain ⟨g, hg'⟩ := Classical.axiomOfChoice hex
    have hg : ∀ r d, r ∈ fn.results.toList → resD E st r = some d → good r d (g r) := fun r d _ hd => hg' r d hd
    have hrun : (fn.results.mapM (resRun a')).run P w' = .ok (fn.results.toList.map g).toArray w' :=
      mapM_run fun r hr => by
        obtain ⟨i, hi⟩ := List.mem_iff_getElem?.1 hr
        obtain ⟨d, _, hd⟩ := hall i r hi
        exact (hg r d hr hd).1
    have hres : (results fn a'.tmps).run P w' = .ok (resV (fn.results.toList.map g)) w' := by
      have e : results fn a'.tmps = (fn.results.mapM (resRun a') >>= fun vs => pure (if h : vs.size = 1 then vs[0] else Value.tuple vs)) := by
        unfold results
        congr 1
      rw [e, Sem.run_bind, hrun, Result.andThen_ok, Sem.run_pure]
      congr 1
      exact oneOf _
    refine ⟨_, hres, _, rfl, hs.below, ?_⟩
    -- the blocks of what is the call's own
    have hat : ∀ (i : Nat) (d : D), rs[i]? = some d → ∃ r, fn.results.toList[i]? = some r ∧ resD E st r = some d ∧ good r d (g r) := by
      intro i d hi
      obtain ⟨r, hr⟩ := getElem?_of_lt (l := fn.results.toList) (i := i) (by have := getElem?_lt hi; omega)
      obtain ⟨d', h1, h2⟩ := hall i r hr
      rw [hi] at h1; cases h1
      exact ⟨r, hr, h2, hg r d (List.mem_of_getElem? hr) h2⟩
    let blk (i : Nat) : Nat := match fn.results.toList[i]? with
      | some r => match ownOf st r with
        | some j => ρ j
        | none => 0
      | none => 0
    have hown : ∀ (i : Nat) (d : D), rs[i]? = some d → isOwn d = true → ∃ r j b, fn.results.toList[i]? = some r ∧ ownOf st r = some j ∧ st.hp j = some b ∧ blk i = ρ j := by
      intro i d hi ho
      obtain ⟨r, h1, h2, h3⟩ := hat i d hi
      cases d with
      | own e k ns =>
        obtain ⟨_, j, h4, ⟨b, h5⟩, _⟩ := h3
        exact ⟨r, j, b, h1, h4, h5, by simp only [blk, h1, h4]⟩
      | _ => cases ho
    refine ⟨blk, by simp [hlen'], ?_, ?_⟩
    · intro i j d d' hi hj ho ho' he'
      obtain ⟨r, k, b, h1, h2, h3, h4⟩ := hown i d hi ho
      obtain ⟨r', k', b', h1', h2', h3', h4'⟩ := hown j d' hj ho'
      rw [h4, h4'] at he'
      have := hs.inj k k' b b' h3 h3' he'
      subst this
      exact ownIds_inj hn h1 h1' h2 h2'
    · intro i d v hi hv
      obtain ⟨r, h1, h2, h3⟩ := hat i d hi
      have e : v = g r := by
        rw [List.getElem?_map, h1] at hv
        exact (Option.some.inj hv).symm
      subst e
      have hl : Later (XO Y ρ st.hp) w' (fun b => Y b ∨ ∃ (j : Nat) (d' : D), rs[j]? = some d' ∧ isOwn d' = true ∧ blk j = b) w' := by
        refine ⟨Nat.le_refl _, fun b _ hx => ⟨rfl, fun hb => hx ?_⟩⟩
        rcases hb with hb | ⟨j, d', hj, ho, rfl⟩
        · exact .inl hb
        · obtain ⟨r', k, b', _, _, h5, h6⟩ := hown j d' hj ho
          exact .inr ⟨k, b', h5, h6.symm⟩
      cases d with
      | own e k ns =>
        obtain ⟨_, j, h4, _, h5⟩ := h3
        have : blk i = ρ j := by simp only [blk, h1, h4]
        simp only
        rw [this]
        exact h5
      | s x => exact RepD.later hl (d := .s x) h3.2
      | rows sz n fr => exact RepD.later hl (d := .rows sz n fr) h3.2
      | agg cs => exact RepD.later hl (d := .agg cs) h3.2
  cases ex with
  | normal => exact key
  | ret => exact key
  | exit i => cases hK

/-- The table of types, off the program. -/
def kindOf (P : Program) : TypeDesc → Option TK
  | .bool => some .bool
  | .int k => some (.int k)
  | .float k => some (.float k)
  | .slice e => some (.slice e)
  | .string => some .str
  | .struct fields => (fields.toList.mapM fun (f : Field) => match P.info? f.type, P.underlying f.type with
    | some fi, some fd => some (f.offset, fi.size, isAggD fd)
    | _, _ => none).map .struct
  | .array len e => match P.info? e, P.underlying e with
    | some ei, some ed => some (.arr len ei.size (isAggD ed))
    | _, _ => none
  | _ => some .other
def tiOf (P : Program) (t : TypeId) : Option TI := match P.info? t, P.underlying t with
  | some i, some d => match i.zero, kindOf P d with
    | some z, some k => some ⟨i.size, i.bytes, z.cells.toList, k⟩
    | _, _ => none
  | _, _ => none
def tiOk (ti : TI) : Bool := Nat.beq ti.zero.length ti.size && ti.zero.all fun v => v.oneCell'

theorem kindOf_ok {P : Program} {d : TypeDesc} {k : TK} (h : kindOf P d = some k) : KindOk P k d := by
  unfold kindOf at h
  split at h
  · cases h; rfl
  · cases h; rfl
  · cases h; rfl
  · cases h; rfl
  · cases h; rfl
  · rename_i fields
    cases hm : (fields.toList.mapM fun (f : Field) => match P.info? f.type, P.underlying f.type with
      | some fi, some fd => some (f.offset, fi.size, isAggD fd)
      | _, _ => none) with
    | none => rw [hm] at h; cases h
    | some fs =>
      rw [hm] at h
      cases h
      obtain ⟨h1, h2⟩ := mapM_all hm
      refine ⟨fields, rfl, by simpa using h1, fun i f hf => ?_⟩
      obtain ⟨y, e1, e2⟩ := h2 i f (by simpa using hf)
      split at e2
      · rename_i fi fd hfi hfd
        cases e2
        exact ⟨fi, fd, hfi, hfd, e1⟩
      · cases e2
  · rename_i len e
    split at h
    · rename_i ei ed hei hed
      cases h
      exact ⟨e, ei, ed, rfl, hei, rfl, hed, rfl⟩
    · cases h
  · rename_i h1 h2 h3 h4 h5 h6 h7
    cases h
    show isAggD d = false
    cases d <;> first | rfl | (exfalso; exact h6 _ rfl) | (exfalso; exact h7 _ _ rfl)

def eqChk (P : Program) (t : TypeId) (ti : TI) : Bool := match plainKinds ti with
  | some ks => (match P.underlying t with
    | some (.struct fields) => !P.stoodInHeld t && (eqChkF P 0 fields.toList ks && !P.eqGuardType P.depth t)
    | _ => false)
  | none => true
theorem eqChk_ok {P : Program} {t : TypeId} {ti : TI} (h : eqChk P t ti = true) (ks : List IntKind) (hk : plainKinds ti = some ks) : EqOk P t ks := by
  unfold eqChk at h
  rw [hk] at h
  simp only at h
  split at h
  · rename_i fields hf
    simp only [Bool.and_eq_true, Bool.not_eq_true'] at h
    exact ⟨fields, hf, h.1, h.2.1, h.2.2⟩
  · cases h
theorem tyOk1_of {P : Program} {t : TypeId} {ti : TI} (h : tiOf P t = some ti) (hk : tiOk ti = true) (hq : eqChk P t ti = true) : TyOk1 P t ti := by
  have heq := eqChk_ok hq
  unfold tiOf at h
  split at h
  · rename_i i d hi hd
    split at h
    · rename_i z k hz hkd
      cases h
      unfold tiOk at hk
      simp only [Bool.and_eq_true] at hk
      exact { i := ⟨i, hi, rfl, rfl, z, hz, rfl⟩, zl := Nat.eq_of_beq_eq_true hk.1, zo := fun v hv => List.all_eq_true.1 hk.2 v hv, d := ⟨d, hd, kindOf_ok hkd⟩, eq := heq }
    · cases h
  · cases h

def tlook {α : Type} : List (Nat × α) → Nat → Option α
  | [], _ => none
  | p :: r, t => bif Nat.beq p.1 t then some p.2 else tlook r t
theorem tlook_mem {α : Type} : ∀ {l : List (Nat × α)} {t : Nat} {x : α}, tlook l t = some x → (t, x) ∈ l
  | [], t, x, h => by cases h
  | p :: r, t, x, h => by
    simp only [tlook] at h
    cases hb : Nat.beq p.1 t with
    | true =>
      rw [hb] at h
      cases h
      have := Nat.eq_of_beq_eq_true hb
      subst this
      exact List.mem_cons_self ..
    | false => rw [hb] at h; exact List.mem_cons_of_mem _ (tlook_mem h)

theorem tyOk_of {P : Program} (tbl : List (Nat × TI)) (h : tbl.map (fun p => tiOf P p.1) = tbl.map fun p => some p.2) (hk : (tbl.all fun p => tiOk p.2) = true) (hq : (tbl.all fun p => eqChk P p.1 p.2) = true) : TyOk P (tlook tbl) := by
  intro t ti ht
  have hm := tlook_mem ht
  have h1 : tiOf P t = some ti := by
    have := List.map_inj_left.1 h (t, ti) hm
    exact this
  exact tyOk1_of h1 (List.all_eq_true.1 hk (t, ti) hm) (List.all_eq_true.1 hq (t, ti) hm)

end Go.Proofs.YtfebndgmmekmgaaGreatDoor.AI

/- A piece of code comes to one end: what follows it takes that. So a loop is its first round and the loop again. -/
namespace Go.Proofs.YtfebndgmmekmgaaGreatDoor.AI
open Go Go.RowKit

theorem opsK_bind {R : Type} (E : Env) (draw : Bool) (ops : Array Oper) (base : Nat) : ∀ (rest : List Oper) (i : Nat) (recs : List Rec) (st : St) (K : St → Option R),
    opsK E draw ops base rest i recs st K = (opsK E draw ops base rest i recs st some).bind K
  | [], i, recs, st, K => rfl
  | o :: rest, i, recs, st, K => by
    unfold opsK
    cases (dstOk E.nt o && (!draw || edgesOk i o)) with
    | false => rfl
    | true =>
      simp only [cond_true]
      split
      · rw [effK_bind, effK_bind]
        cases eff E (base + 8 * i) o (evA E st.fr) st.hp with
        | none => rfl
        | some p =>
          simp only [Option.bind_some]
          cases (!draw || recs.all fun r => indep ops r i o (touches o (evA E st.fr) p.2) (p.2.map (·.1))) with
          | false => rfl
          | true => exact opsK_bind E draw ops base rest (i + 1) _ _ K
      · split
        · split
          · rename_i want _ _ d _ _ b _
            cases b with
            | true =>
              simp only [cond_true]
              cases (true == want) with
              | true =>
                simp only [cond_true]
                rw [effK_bind, effK_bind]
                cases eff E (base + 8 * i) o (evA E (upd st.fr d (scv (.bool true)))) st.hp with
                | none => rfl
                | some p =>
                  simp only [Option.bind_some]
                  cases (!draw || recs.all fun r => indep ops r i o (touches o (evA E (upd st.fr d (scv (.bool true)))) p.2) (p.2.map (·.1))) with
                  | false => rfl
                  | true => exact opsK_bind E draw ops base rest (i + 1) _ _ K
              | false =>
                simp only [cond_false]
                cases (!draw || recs.all fun r => indep ops r i o [] []) with
                | false => rfl
                | true => exact opsK_bind E draw ops base rest (i + 1) _ _ K
            | false =>
              simp only [cond_false]
              cases (false == want) with
              | true =>
                simp only [cond_true]
                rw [effK_bind, effK_bind]
                cases eff E (base + 8 * i) o (evA E (upd st.fr d (scv (.bool false)))) st.hp with
                | none => rfl
                | some p =>
                  simp only [Option.bind_some]
                  cases (!draw || recs.all fun r => indep ops r i o (touches o (evA E (upd st.fr d (scv (.bool false)))) p.2) (p.2.map (·.1))) with
                  | false => rfl
                  | true => exact opsK_bind E draw ops base rest (i + 1) _ _ K
              | false =>
                simp only [cond_false]
                cases (!draw || recs.all fun r => indep ops r i o [] []) with
                | false => rfl
                | true => exact opsK_bind E draw ops base rest (i + 1) _ _ K
          · cases (!draw || recs.all fun r => indep ops r i o [] []) with
            | false => rfl
            | true => exact opsK_bind E draw ops base rest (i + 1) _ _ K
          · rfl
        · rfl

section
variable (keep : List Nat) (f : St → Option (Ex × St))
/-- The rounds of a loop, n at most. -/
def runs : Nat → List KV → Option (Ex × St)
  | 0, _ => none
  | n + 1, l => (f (mk keep l)).bind fun p => match p.1 with
    | .normal => runs n (canon keep p.2)
    | .exit i => some (.exit i, p.2)
    | .ret => some (.ret, p.2)

theorem runs_mono : ∀ (n k : Nat) (l : List KV) (p : Ex × St), runs keep f n l = some p → runs keep f (n + k) l = some p
  | 0, _, _, _, h => by cases h
  | n + 1, k, l, p, h => by
    rw [Nat.add_right_comm]
    simp only [runs] at h ⊢
    cases hf : f (mk keep l) with
    | none => rw [hf] at h; cases h
    | some q =>
      rw [hf] at h
      simp only [Option.bind_some] at h ⊢
      obtain ⟨ex, st⟩ := q
      cases ex with
      | normal => exact runs_mono n k _ p h
      | exit i => exact h
      | ret => exact h

theorem runs_one {n m : Nat} {l : List KV} {p q : Ex × St} (h : runs keep f n l = some p) (h' : runs keep f m l = some q) : p = q := by
  have h1 := runs_mono keep f n m l p h
  have h2 := runs_mono keep f m n l q h'
  rw [Nat.add_comm m n, h1] at h2
  exact Option.some.inj h2

open Classical in
/-- Where the rounds come to an end: that end. -/
noncomputable def lim (l : List KV) : Option (Ex × St) := if h : ∃ p, ∃ n, runs keep f n l = some p then some (Classical.choose h) else none

theorem lim_of {n : Nat} {l : List KV} {p : Ex × St} (h : runs keep f n l = some p) : lim keep f l = some p := by
  unfold lim
  have hex : ∃ p, ∃ n, runs keep f n l = some p := ⟨p, n, h⟩
  rw [dif_pos hex]
  obtain ⟨m, hm⟩ := Classical.choose_spec hex
  rw [runs_one keep f hm h]

theorem of_lim {l : List KV} {p : Ex × St} (h : lim keep f l = some p) : ∃ n, runs keep f n l = some p := by
  unfold lim at h
  split at h
  · rename_i hex; cases h; exact Classical.choose_spec hex
  · cases h

theorem lim_eq (l : List KV) : lim keep f l = (f (mk keep l)).bind fun p => match p.1 with
    | .normal => lim keep f (canon keep p.2)
    | .exit i => some (.exit i, p.2)
    | .ret => some (.ret, p.2) := by
  cases hf : f (mk keep l) with
  | none =>
    cases hl : lim keep f l with
    | none => rfl
    | some p =>
      obtain ⟨n, hn⟩ := of_lim keep f hl
      cases n with
      | zero => cases hn
      | succ n => simp only [runs, hf] at hn; cases hn
  | some q =>
    obtain ⟨ex, st⟩ := q
    simp only [Option.bind_some]
    cases ex with
    | normal =>
      simp only
      cases hl : lim keep f (canon keep st) with
      | some p =>
        obtain ⟨n, hn⟩ := of_lim keep f hl
        exact lim_of keep f (n := n + 1) (by simp only [runs, hf, Option.bind_some]; exact hn)
      | none =>
        cases hl' : lim keep f l with
        | none => rfl
        | some p =>
          obtain ⟨n, hn⟩ := of_lim keep f hl'
          cases n with
          | zero => cases hn
          | succ n =>
            simp only [runs, hf, Option.bind_some] at hn
            rw [lim_of keep f hn] at hl
            cases hl
    | exit i => exact lim_of keep f (n := 1) (by simp only [runs, hf, Option.bind_some])
    | ret => exact lim_of keep f (n := 1) (by simp only [runs, hf, Option.bind_some])

/-- A round that is told by f. -/
def gOf {R : Type} (K : Ex → St → Option R) (rec : List KV → Option R) (l : List KV) : Option R :=
  (f (mk keep l)).bind fun p => match p.1 with
    | .normal => rec (canon keep p.2)
    | .exit i => K (.exit i) p.2
    | .ret => K .ret p.2

theorem iter_runs {R : Type} (K : Ex → St → Option R) : ∀ (n : Nat) (l : List KV), iter (gOf keep f K) n l = (runs keep f n l).bind fun p => K p.1 p.2
  | 0, _ => rfl
  | n + 1, l => by
    simp only [iter, gOf, runs]
    cases f (mk keep l) with
    | none => rfl
    | some q =>
      obtain ⟨ex, st⟩ := q
      simp only [Option.bind_some]
      cases ex with
      | normal => exact iter_runs K n _
      | exit i => rfl
      | ret => rfl

theorem fix_lim {R : Type} (K : Ex → St → Option R) (l : List KV) : fix (gOf keep f K) l = (lim keep f l).bind fun p => K p.1 p.2 := by
  cases hl : lim keep f l with
  | none =>
    unfold fix
    rw [dif_neg]
    · rfl
    · rintro ⟨r, n, h⟩
      rw [iter_runs] at h
      cases hr : runs keep f n l with
      | none => rw [hr] at h; cases h
      | some p => rw [lim_of keep f hr] at hl; cases hl
  | some p =>
    obtain ⟨n, hn⟩ := of_lim keep f hl
    simp only [Option.bind_some]
    cases hK : K p.1 p.2 with
    | some r =>
      unfold fix
      have hex : ∃ r, ∃ n, iter (gOf keep f K) n l = some r := ⟨r, n, by rw [iter_runs, hn]; exact hK⟩
      rw [dif_pos hex]
      obtain ⟨m, hm⟩ := Classical.choose_spec hex
      rw [iter_runs] at hm
      cases hr : runs keep f m l with
      | none => rw [hr] at hm; cases hm
      | some q =>
        rw [hr, runs_one keep f hr hn] at hm
        simp only [Option.bind_some] at hm
        rw [hK] at hm
        exact hm.symm
    | none =>
      unfold fix
      rw [dif_neg]
      rintro ⟨r, m, h⟩
      rw [iter_runs] at h
      cases hr : runs keep f m l with
      | none => rw [hr] at h; cases h
      | some q =>
        rw [hr, runs_one keep f hr hn] at h
        simp only [Option.bind_some] at h
        rw [hK] at h
        cases h

theorem fix_gOf {R : Type} (K : Ex → St → Option R) (l : List KV) : fix (gOf keep f K) l = gOf keep f K (fix (gOf keep f K)) l := by
  rw [fix_lim, lim_eq]
  unfold gOf
  cases f (mk keep l) with
  | none => rfl
  | some q =>
    obtain ⟨ex, st⟩ := q
    simp only [Option.bind_some]
    cases ex with
    | normal => exact (fix_lim keep f K _).symm
    | exit i => rfl
    | ret => rfl
end

def condSt (c : Operand) (st : St) : Option (Bool × St) := match c with
  | .tmp s => match st.fr s with
    | .v (.one (.s (.sc (.bool t)))) => some (t, ⟨upd st.fr s (scv (.bool t)), st.hp, st.n⟩)
    | _ => none
  | .const (.bool t) => some (t, st)
  | _ => none
theorem cond_condSt {R : Type} (E : Env) (c : Operand) (a b : Code) (st : St) (K : Ex → St → Option R) : evalCode E (.cond c a b) st K = (condSt c st).bind fun p => bif p.1 then evalCode E a p.2 K else evalCode E b p.2 K := by
  cases c with
  | tmp s =>
    simp only [evalCode, condSt]
    split
    · rename_i t h
      simp only [h, Option.bind_some]
      cases t <;> rfl
    · rename_i h
      split
      · rename_i t h'; exact (h t h').elim
      · rfl
  | const v => cases v <;> simp only [evalCode, condSt] <;> rfl
  | _ => simp only [evalCode, condSt]; rfl

theorem evalCode_bind (E : Env) (c : Code) : ∃ f : St → Option (Ex × St), ∀ (st : St) {R : Type} (K : Ex → St → Option R), evalCode E c st K = (f st).bind fun p => K p.1 p.2 := by
  induction c with
  | skip => exact ⟨fun st => some (.normal, st), fun st R K => rfl⟩
  | label l => exact ⟨fun st => some (.normal, st), fun st R K => rfl⟩
  | exit id => exact ⟨fun st => some (.exit id, st), fun st R K => rfl⟩
  | ret => exact ⟨fun st => some (.ret, st), fun st R K => rfl⟩
  | region id ops draw =>
    refine ⟨fun st => (opsK E draw ops st.n ops.toList 0 [] st some).bind fun st' => some (.normal, ⟨st'.fr, st'.hp, st.n + 8 * ops.size⟩), fun st R K => ?_⟩
    unfold evalCode
    rw [opsK_bind]
    simp only []
    cases opsK E draw ops st.n ops.toList 0 [] st some <;> rfl
  | seq a b iha ihb =>
    obtain ⟨f, hf⟩ := iha
    obtain ⟨g, hg⟩ := ihb
    refine ⟨fun st => (f st).bind fun p => match p.1 with
      | .normal => match E.cut (keyOf b) with
        | some keep => g (mk keep (canon keep p.2))
        | none => g p.2
      | .exit i => some (.exit i, p.2)
      | .ret => some (.ret, p.2), fun st R K => ?_⟩
    unfold evalCode
    rw [hf]
    simp only []
    cases f st with
    | none => rfl
    | some q =>
      obtain ⟨ex, st'⟩ := q
      cases ex with
      | normal =>
        simp only [Option.bind_some]
        cases E.cut (keyOf b) with
        | none => exact hg st' K
        | some keep => exact hg _ K
      | exit i => rfl
      | ret => rfl
  | cond cd a b iha ihb =>
    obtain ⟨f, hf⟩ := iha
    obtain ⟨g, hg⟩ := ihb
    refine ⟨fun st => (condSt cd st).bind fun p => bif p.1 then f p.2 else g p.2, fun st R K => ?_⟩
    rw [cond_condSt]
    simp only []
    cases condSt cd st with
    | none => rfl
    | some p =>
      obtain ⟨t, st'⟩ := p
      cases t with
      | true => exact hf _ K
      | false => exact hg _ K
  | block id c ih =>
    obtain ⟨f, hf⟩ := ih
    refine ⟨fun st => (f st).bind fun p => match p.1 with
      | .normal => some (.normal, p.2)
      | .exit i => bif Nat.beq i id then some (.normal, p.2) else some (.exit i, p.2)
      | .ret => some (.ret, p.2), fun st R K => ?_⟩
    unfold evalCode
    rw [hf]
    simp only []
    cases f st with
    | none => rfl
    | some q =>
      obtain ⟨ex, st'⟩ := q
      cases ex with
      | normal => rfl
      | exit i =>
        simp only [Option.bind_some]
        cases Nat.beq i id <;> rfl
      | ret => rfl
  | loop c ih =>
    obtain ⟨f, hf⟩ := ih
    have hG : ∀ {R : Type} (keep : List Nat) (K : Ex → St → Option R), (fun (rec : List KV → Option R) l => evalCode E c (mk keep l) fun ex st' => match ex with
        | .normal => rec (canon keep st')
        | .exit i => K (.exit i) st'
        | .ret => K .ret st') = gOf keep f K := by
      intro R keep K
      funext rec l
      rw [hf]
      unfold gOf
      cases f (mk keep l) with
      | none => rfl
      | some q => obtain ⟨ex, st'⟩ := q; cases ex <;> rfl
    refine ⟨fun st => match E.roll (keyOf c) with
      | some n => runs (E.keep (keyOf c)) f n (canon (E.keep (keyOf c)) st)
      | none => lim (E.keep (keyOf c)) f (canon (E.keep (keyOf c)) st), fun st R K => ?_⟩
    simp only [evalCode]
    cases E.roll (keyOf c) with
    | some n => exact (congrArg (fun G => iter G n (canon (E.keep (keyOf c)) st)) (hG _ K)).trans (iter_runs _ _ _ _ _)
    | none => exact (congrArg (fun G => fix G (canon (E.keep (keyOf c)) st)) (hG _ K)).trans (fix_lim _ _ _ _)
  | rangeFunc f ps x y _ _ => exact ⟨fun _ => none, fun st R K => rfl⟩
  | scope c _ => exact ⟨fun _ => none, fun st R K => rfl⟩
  | goto l => exact ⟨fun _ => none, fun st R K => rfl⟩
  | refuse why => exact ⟨fun _ => none, fun st R K => rfl⟩

/-- A LOOP IS ITS FIRST ROUND AND THE LOOP AGAIN. -/
theorem loop_eq {R : Type} (E : Env) (keep : List Nat) (c : Code) (K : Ex → St → Option R) (l : List KV) :
    fix (roundOf (evalCode E) keep c K) l = roundOf (evalCode E) keep c K (fix (roundOf (evalCode E) keep c K)) l := by
  obtain ⟨f, hf⟩ := evalCode_bind E c
  have hG : roundOf (evalCode E) keep c K = gOf keep f K := by
    funext rec l
    unfold roundOf
    rw [hf]
    unfold gOf
    cases f (mk keep l) with
    | none => rfl
    | some q => obtain ⟨ex, st'⟩ := q; cases ex <;> rfl
  rw [hG]
  exact fix_gOf keep f K l

/-- A loop of a function, by its name, from what its head keeps. -/
noncomputable def loopAt (E : Env) (fn : Func) (c : Code) (key : Nat) (l : List KV) : Option (List D) :=
  match findLoop E key c (endK E fn) with
  | some (b, K) => fix (roundOf (evalCode E) (E.keep key) b K) l
  | none => none
noncomputable def roundAt (E : Env) (fn : Func) (c : Code) (key : Nat) (l : List KV) : Option (List D) :=
  match findLoop E key c (endK E fn) with
  | some (b, K) => roundOf (evalCode E) (E.keep key) b K (fix (roundOf (evalCode E) (E.keep key) b K)) l
  | none => none
theorem loopAt_eq (E : Env) (fn : Func) (c : Code) (key : Nat) (l : List KV) : loopAt E fn c key l = roundAt E fn c key l := by
  unfold loopAt roundAt
  cases findLoop E key c (endK E fn) with
  | none => rfl
  | some p => exact loop_eq E _ p.1 p.2 l

/-- What follows a cut of a function, from what is kept there. -/
noncomputable def cutAt (E : Env) (fn : Func) (c : Code) (key : Nat) (l : List KV) : Option (List D) :=
  match findCut E key c (endK E fn), E.cut key with
  | some (b, K), some keep => cutHere key l fun l => evalCode E b (mk keep l) K
  | _, _ => none

noncomputable def cutOpen (E : Env) (fn : Func) (c : Code) (key : Nat) (l : List KV) : Option (List D) :=
  match findCut E key c (endK E fn), E.cut key with
  | some (b, K), some keep => evalCode E b (mk keep l) K
  | _, _ => none
theorem cutAt_eq (E : Env) (fn : Func) (c : Code) (key : Nat) (l : List KV) : cutAt E fn c key l = cutOpen E fn c key l := by
  unfold cutAt cutOpen cutHere
  rfl

end Go.Proofs.YtfebndgmmekmgaaGreatDoor.AI

/- Tables of contracts. -/
namespace Go.Proofs.YtfebndgmmekmgaaGreatDoor.AI
open Go Go.RowKit

theorem Contract.of {P : Program} {G : Nat → Option (IntKind × List Int)} {f : FuncId} {ds ds' rs : List D} (h : Contract P G f ds' rs) (hl : ds.length = ds'.length)
    (hd : ∀ (i : Nat) (d d' : D), ds[i]? = some d → ds'[i]? = some d' → ∀ (Y : Nat → Prop) (w : World) (v : Value), RepD Y w d v → RepD Y w d' v) : Contract P G f ds rs := by
  intro Y w vs hY hG hlen hargs
  refine h Y w vs hY hG (by omega) fun i d' v hi hv => ?_
  obtain ⟨d, hd'⟩ := getElem?_of_lt (l := ds) (i := i) (by have := getElem?_lt hi; omega)
  exact hd i d d' hd' hi Y w v (hargs i d v hd' hv)

/-- Numbers of a slice that is handed over: of a nil one: none. -/
def dI (k : IntKind) : D → Option (List Int)
  | .s (.ints k' ns) => if _h : k = k' then some ns else none
  | .s (.sc (.slice none 0 0)) => some []
  | _ => none
def dN (k : IntKind) : D → Option Int
  | .s (.sc (.int k' n)) => if _h : k = k' then some n else none
  | _ => none
def dB : D → Option Bool
  | .s (.sc (.bool b)) => some b
  | _ => none

def DLe (d d' : D) : Prop := ∀ (Y : Nat → Prop) (w : World) (v : Value), RepD Y w d v → RepD Y w d' v
theorem DLe.refl (d : D) : DLe d d := fun _ _ _ h => h
theorem dI_le {k : IntKind} {d : D} {ns : List Int} (h : dI k d = some ns) : DLe d (.s (.ints k ns)) := by
  intro Y w v hr
  unfold dI at h
  split at h
  · split at h
    · rename_i hk; cases h; subst hk; exact hr
    · cases h
  · cases h
    obtain ⟨rfl, _⟩ := hr
    exact ⟨none, 0, rfl, Nat.le_refl _, fun i n hn => by simp at hn⟩
  · cases h
theorem dN_eq {k : IntKind} {d : D} {n : Int} (h : dN k d = some n) : d = .s (.sc (.int k n)) := by
  unfold dN at h
  split at h
  · split at h
    · rename_i hk; cases h; subst hk; rfl
    · cases h
  · cases h
theorem dN_le {k : IntKind} {d : D} {n : Int} (h : dN k d = some n) : DLe d (.s (.sc (.int k n))) := by rw [dN_eq h]; exact DLe.refl _
theorem dB_eq {d : D} {b : Bool} (h : dB d = some b) : d = .s (.sc (.bool b)) := by
  unfold dB at h
  split at h
  · cases h; rfl
  · cases h
theorem dB_le {d : D} {b : Bool} (h : dB d = some b) : DLe d (.s (.sc (.bool b))) := by rw [dB_eq h]; exact DLe.refl _

theorem Contract.of1 {P : Program} {G : Nat → Option (IntKind × List Int)} {f : FuncId} {d d' : D} {rs : List D} (h : Contract P G f [d'] rs) (hd : DLe d d') : Contract P G f [d] rs :=
  h.of rfl fun i x x' hx hx' => by
    match i with
    | 0 => simp at hx hx'; subst hx; subst hx'; exact hd
    | i + 1 => simp at hx
theorem Contract.of2 {P : Program} {G : Nat → Option (IntKind × List Int)} {f : FuncId} {d d' e e' : D} {rs : List D} (h : Contract P G f [d', e'] rs) (hd : DLe d d') (he : DLe e e') : Contract P G f [d, e] rs :=
  h.of rfl fun i x x' hx hx' => by
    match i with
    | 0 => simp at hx hx'; subst hx; subst hx'; exact hd
    | 1 => simp at hx hx'; subst hx; subst hx'; exact he
    | i + 2 => simp at hx
theorem Contract.of3 {P : Program} {G : Nat → Option (IntKind × List Int)} {f : FuncId} {d d' e e' g g' : D} {rs : List D} (h : Contract P G f [d', e', g'] rs) (hd : DLe d d') (he : DLe e e') (hg : DLe g g') : Contract P G f [d, e, g] rs :=
  h.of rfl fun i x x' hx hx' => by
    match i with
    | 0 => simp at hx hx'; subst hx; subst hx'; exact hd
    | 1 => simp at hx hx'; subst hx; subst hx'; exact he
    | 2 => simp at hx hx'; subst hx; subst hx'; exact hg
    | i + 3 => simp at hx
theorem Contract.of4 {P : Program} {G : Nat → Option (IntKind × List Int)} {f : FuncId} {d d' e e' g g' k k' : D} {rs : List D} (h : Contract P G f [d', e', g', k'] rs) (hd : DLe d d') (he : DLe e e') (hg : DLe g g') (hk : DLe k k') : Contract P G f [d, e, g, k] rs :=
  h.of rfl fun i x x' hx hx' => by
    match i with
    | 0 => simp at hx hx'; subst hx; subst hx'; exact hd
    | 1 => simp at hx hx'; subst hx; subst hx'; exact he
    | 2 => simp at hx hx'; subst hx; subst hx'; exact hg
    | 3 => simp at hx hx'; subst hx; subst hx'; exact hk
    | i + 4 => simp at hx

/-- What a function is known to answer: where 'g' holds, 'rs'. -/
abbrev Orc := List D → Option (Prop × List D)
def OrcOk (P : Program) (G : Nat → Option (IntKind × List Int)) (f : FuncId) (o : Orc) : Prop :=
  ∀ ds g rs, o ds = some (g, rs) → g → Contract P G f ds rs ∧ HasBody P f
def callsOf (tbl : List (Nat × Orc)) (f : FuncId) (ds : List D) : Option (Prop × List D) := match tlook tbl f with
  | some o => o ds
  | none => none
theorem callsOk_of {P : Program} {E : Env} (tbl : List (Nat × Orc)) (hC : E.C = callsOf tbl) (h : ∀ p ∈ tbl, OrcOk P E.glob p.1 p.2)
    (hx : ∀ f vs g rs, E.ext f vs = some (g, rs) → g → (∀ v ∈ rs, v.oneCell' = true) ∧ ∀ w, (callFunc f vs.toArray).run P w = .ok (.value (resV rs)) w) : CallsOk P E := by
  refine ⟨fun f ds g rs he hg => ?_, hx⟩
  rw [hC] at he
  unfold callsOf at he
  split at he
  · rename_i o ho
    exact h _ (tlook_mem ho) ds g rs he hg
  · cases he

theorem orcs_nil {P : Program} {G : Nat → Option (IntKind × List Int)} : ∀ p ∈ ([] : List (Nat × Orc)), OrcOk P G p.1 p.2 := fun _ h => by cases h
theorem orcs_cons {P : Program} {G : Nat → Option (IntKind × List Int)} {f : Nat} {o : Orc} {tbl : List (Nat × Orc)} (h : OrcOk P G f o) (ht : ∀ p ∈ tbl, OrcOk P G p.1 p.2) : ∀ p ∈ (f, o) :: tbl, OrcOk P G p.1 p.2 := by
  intro p hp
  rcases List.mem_cons.1 hp with rfl | hp
  · exact h
  · exact ht p hp

/-- No function without a Go text is known. -/
def ExtOk (P : Program) (ext : FuncId → List Value → Option (Prop × List Value)) : Prop := ∀ f vs g rs, ext f vs = some (g, rs) → g → (∀ v ∈ rs, v.oneCell' = true) ∧ ∀ w, (callFunc f vs.toArray).run P w = .ok (.value (resV rs)) w
theorem noExt {P : Program} {E : Env} (h : E.ext = fun _ _ => none) : ∀ f vs g rs, E.ext f vs = some (g, rs) → g → (∀ v ∈ rs, v.oneCell' = true) ∧ ∀ w, (callFunc f vs.toArray).run P w = .ok (.value (resV rs)) w := by
  intro f vs g rs he
  rw [h] at he
  cases he

end Go.Proofs.YtfebndgmmekmgaaGreatDoor.AI

/- The same reckoning, where loops and cuts are met by name alone. -/
namespace Go.Proofs.YtfebndgmmekmgaaGreatDoor.AI
open Go Go.RowKit

section
variable {R : Type} (E : Env) (J L : Nat → List KV → Option R)

noncomputable def evalJ : Code → St → (Ex → St → Option R) → Option R
  | .skip, st, K => K .normal st
  | .label _, st, K => K .normal st
  | .region _ ops draw, st, K => opsK E draw ops st.n ops.toList 0 [] st fun st' => K .normal ⟨st'.fr, st'.hp, st.n + 8 * ops.size⟩
  | .seq a b, st, K => evalJ a st fun ex st' => match ex with
    | .normal => match E.cut (keyOf b) with
      | some keep => J (keyOf b) (canon keep st')
      | none => evalJ b st' K
    | .exit i => K (.exit i) st'
    | .ret => K .ret st'
  | .cond c a b, st, K => match c with
    | .tmp s => match st.fr s with
      | .v (.one (.s (.sc (.bool t)))) => bcase t (evalJ a ⟨upd st.fr s (scv (.bool true)), st.hp, st.n⟩ K) (evalJ b ⟨upd st.fr s (scv (.bool false)), st.hp, st.n⟩ K)
      | _ => none
    | .const (.bool t) => bcase t (evalJ a st K) (evalJ b st K)
    | _ => none
  | .block id c, st, K => evalJ c st fun ex st' => match ex with
    | .normal => K .normal st'
    | .exit i => bif Nat.beq i id then K .normal st' else K (.exit i) st'
    | .ret => K .ret st'
  | .exit id, st, K => K (.exit id) st
  | .ret, st, K => K .ret st
  | .loop c, st, _ => L (keyOf c) (canon (E.keep (keyOf c)) st)
  | _, _, _ => none

/-- What comes behind the first of two. -/
noncomputable def seqKJ (b : Code) (K : Ex → St → Option R) (ex : Ex) (st' : St) : Option R := match ex with
  | .normal => match E.cut (keyOf b) with
    | some keep => J (keyOf b) (canon keep st')
    | none => evalJ E J L b st' K
  | .exit i => K (.exit i) st'
  | .ret => K .ret st'
/-- What comes behind a loop's round. -/
noncomputable def loopKJ (c : Code) (K : Ex → St → Option R) (ex : Ex) (st' : St) : Option R := match ex with
  | .normal => L (keyOf c) (canon (E.keep (keyOf c)) st')
  | .exit i => K (.exit i) st'
  | .ret => K .ret st'
noncomputable def findLoopJ (key : Nat) : Code → (Ex → St → Option R) → Option (Code × (Ex → St → Option R))
  | .seq a b, K => (findLoopJ key a (seqKJ E J L b K)).or (findLoopJ key b K)
  | .cond _ a b, K => (findLoopJ key a K).or (findLoopJ key b K)
  | .block id c, K => findLoopJ key c (blockK id K)
  | .loop c, K => bif Nat.beq (keyOf c) key then some (c, K) else findLoopJ key c (loopKJ E L c K)
  | _, _ => none
noncomputable def findCutJ (key : Nat) : Code → (Ex → St → Option R) → Option (Code × (Ex → St → Option R))
  | .seq a b, K => bif Nat.beq (keyOf b) key then some (b, K) else (findCutJ key a (seqKJ E J L b K)).or (findCutJ key b K)
  | .cond _ a b, K => (findCutJ key a K).or (findCutJ key b K)
  | .block id c, K => findCutJ key c (blockK id K)
  | .loop c, K => findCutJ key c (loopKJ E L c K)
  | _, _ => none
end

/-- The names of loops; of cuts. -/
def loopKeys : Code → List Nat
  | .seq a b => loopKeys a ++ loopKeys b
  | .cond _ a b => loopKeys a ++ loopKeys b
  | .block _ c => loopKeys c
  | .loop c => keyOf c :: loopKeys c
  | _ => []
def cutKeys (E : Env) : Code → List Nat
  | .seq a b => (match E.cut (keyOf b) with | some _ => [keyOf b] | none => []) ++ (cutKeys E a ++ cutKeys E b)
  | .cond _ a b => cutKeys E a ++ cutKeys E b
  | .block _ c => cutKeys E c
  | .loop c => cutKeys E c
  | _ => []

theorem nodup_iff : ∀ {xs : List Nat}, nodup xs = true ↔ xs.Nodup
  | [] => by simp [nodup]
  | x :: xs => by
    have ih := nodup_iff (xs := xs)
    simp only [nodup, Bool.and_eq_true, Bool.not_eq_true', List.nodup_cons, ih]
    constructor
    · rintro ⟨h1, h2⟩
      refine ⟨fun hm => ?_, h2⟩
      have : xs.elem x = true := List.elem_eq_true_of_mem hm
      rw [this] at h1; cases h1
    · rintro ⟨h1, h2⟩
      refine ⟨?_, h2⟩
      cases hb : xs.elem x with
      | false => rfl
      | true => exact (h1 (List.mem_of_elem_eq_true hb)).elim

section
variable {R : Type} (E : Env)

theorem findLoop_keys (key : Nat) : ∀ (c : Code) (K : Ex → St → Option R), (findLoop E key c K).isSome = true ↔ key ∈ loopKeys c := by
  intro c
  induction c with
  | seq a b iha ihb =>
    intro K
    simp only [findLoop, loopKeys, List.mem_append, Option.isSome_or, Bool.or_eq_true, iha, ihb]
  | cond cd a b iha ihb =>
    intro K
    simp only [findLoop, loopKeys, List.mem_append, Option.isSome_or, Bool.or_eq_true, iha, ihb]
  | block id c ih => intro K; simp only [findLoop, loopKeys, ih]
  | loop c ih =>
    intro K
    simp only [findLoop, loopKeys, List.mem_cons]
    cases hb : Nat.beq (keyOf c) key with
    | true => simp [(Nat.eq_of_beq_eq_true hb)]
    | false =>
      have : key ≠ keyOf c := fun h => by subst h; rw [Nat.beq_refl] at hb; cases hb
      simp only [cond_false, ih, this, false_or]
  | _ => intro K; simp [findLoop, loopKeys]

theorem cutKeys_some {key : Nat} : ∀ {c : Code}, key ∈ cutKeys E c → (E.cut key).isSome = true := by
  intro c
  induction c with
  | seq a b iha ihb =>
    intro h
    simp only [cutKeys, List.mem_append] at h
    rcases h with h | h | h
    · split at h
      · rename_i keep hk; simp at h; subst h; rw [hk]; rfl
      · cases h
    · exact iha h
    · exact ihb h
  | cond cd a b iha ihb =>
    intro h
    simp only [cutKeys, List.mem_append] at h
    exact h.elim iha ihb
  | block id c ih => intro h; exact ih h
  | loop c ih => intro h; exact ih h
  | _ => intro h; simp [cutKeys] at h

theorem findCut_keys {key : Nat} (hk : (E.cut key).isSome = true) : ∀ (c : Code) (K : Ex → St → Option R), (findCut E key c K).isSome = true ↔ key ∈ cutKeys E c := by
  intro c
  induction c with
  | seq a b iha ihb =>
    intro K
    simp only [findCut, cutKeys, List.mem_append]
    cases hb : Nat.beq (keyOf b) key with
    | true =>
      have := Nat.eq_of_beq_eq_true hb
      subst this
      cases hc : E.cut (keyOf b) with
      | none => rw [hc] at hk; cases hk
      | some x => simp
    | false =>
      have hn : key ≠ keyOf b := fun h => by subst h; rw [Nat.beq_refl] at hb; cases hb
      simp only [cond_false, Option.isSome_or, Bool.or_eq_true, iha, ihb]
      constructor
      · intro h; exact .inr h
      · rintro (h | h)
        · split at h
          · simp at h; exact (hn h).elim
          · cases h
        · exact h
  | cond cd a b iha ihb =>
    intro K
    simp only [findCut, cutKeys, List.mem_append, Option.isSome_or, Bool.or_eq_true, iha, ihb]
  | block id c ih => intro K; simp only [findCut, cutKeys, ih]
  | loop c ih => intro K; simp only [findCut, cutKeys, ih]
  | _ => intro K; simp [findCut, cutKeys]

theorem or_left {α : Type} {x y : Option α} (h : x.isSome = true) : x.or y = x := by cases x <;> simp_all
theorem or_right {α : Type} {x y : Option α} (h : ¬ x.isSome = true) : x.or y = y := by cases x <;> simp_all

/-- What lies at a place of a text is found by its names from the text's head. -/
structure Sub (c0 : Code) (K0 : Ex → St → Option R) (c : Code) (K : Ex → St → Option R) : Prop where
  lp : ∀ key, key ∈ loopKeys c → findLoop E key c0 K0 = findLoop E key c K
  ct : ∀ key, key ∈ cutKeys E c → findCut E key c0 K0 = findCut E key c K
  dl : (loopKeys c).Nodup
  dc : (cutKeys E c).Nodup

variable {E} {c0 : Code} {K0 : Ex → St → Option R}
theorem Sub.seq1 {a b : Code} {K : Ex → St → Option R} (h : Sub E c0 K0 (.seq a b) K) : Sub E c0 K0 a (seqK E b K) := by
  have hl := h.dl
  have hc := h.dc
  simp only [loopKeys] at hl
  simp only [cutKeys] at hc
  refine ⟨fun key hk => ?_, fun key hk => ?_, (List.nodup_append.1 hl).1, (List.nodup_append.1 (List.nodup_append.1 hc).2.1).1⟩
  · rw [h.lp key (by simp only [loopKeys, List.mem_append]; exact .inl hk), findLoop]
    exact or_left ((findLoop_keys E key a _).2 hk)
  · rw [h.ct key (by simp only [cutKeys, List.mem_append]; exact .inr (.inl hk)), findCut]
    have hs := cutKeys_some E hk
    cases hb : Nat.beq (keyOf b) key with
    | true =>
      exfalso
      have := Nat.eq_of_beq_eq_true hb
      subst this
      cases hx : E.cut (keyOf b) with
      | none => rw [hx] at hs; cases hs
      | some x =>
        rw [hx] at hc
        exact (List.nodup_append.1 hc).2.2 (keyOf b) (by simp) (keyOf b) (List.mem_append.2 (.inl hk)) rfl
    | false =>
      simp only [cond_false]
      exact or_left ((findCut_keys E hs a _).2 hk)
theorem Sub.seq2 {a b : Code} {K : Ex → St → Option R} (h : Sub E c0 K0 (.seq a b) K) : Sub E c0 K0 b K := by
  have hl := h.dl
  have hc := h.dc
  simp only [loopKeys] at hl
  simp only [cutKeys] at hc
  refine ⟨fun key hk => ?_, fun key hk => ?_, (List.nodup_append.1 hl).2.1, (List.nodup_append.1 (List.nodup_append.1 hc).2.1).2.1⟩
  · rw [h.lp key (by simp only [loopKeys, List.mem_append]; exact .inr hk), findLoop]
    refine or_right fun hx => ?_
    exact (List.nodup_append.1 hl).2.2 key ((findLoop_keys E key a _).1 hx) key hk rfl
  · rw [h.ct key (by simp only [cutKeys, List.mem_append]; exact .inr (.inr hk)), findCut]
    have hs := cutKeys_some E hk
    cases hb : Nat.beq (keyOf b) key with
    | true =>
      exfalso
      have := Nat.eq_of_beq_eq_true hb
      subst this
      cases hx : E.cut (keyOf b) with
      | none => rw [hx] at hs; cases hs
      | some x =>
        rw [hx] at hc
        exact (List.nodup_append.1 hc).2.2 (keyOf b) (by simp) (keyOf b) (List.mem_append.2 (.inr hk)) rfl
    | false =>
      simp only [cond_false]
      refine or_right fun hx => ?_
      exact (List.nodup_append.1 (List.nodup_append.1 hc).2.1).2.2 key ((findCut_keys E hs a _).1 hx) key hk rfl
theorem Sub.cond1 {cd : Operand} {a b : Code} {K : Ex → St → Option R} (h : Sub E c0 K0 (.cond cd a b) K) : Sub E c0 K0 a K := by
  have hl := h.dl
  have hc := h.dc
  simp only [loopKeys] at hl
  simp only [cutKeys] at hc
  refine ⟨fun key hk => ?_, fun key hk => ?_, (List.nodup_append.1 hl).1, (List.nodup_append.1 hc).1⟩
  · rw [h.lp key (by simp only [loopKeys, List.mem_append]; exact .inl hk), findLoop]
    exact or_left ((findLoop_keys E key a _).2 hk)
  · rw [h.ct key (by simp only [cutKeys, List.mem_append]; exact .inl hk), findCut]
    exact or_left ((findCut_keys E (cutKeys_some E hk) a _).2 hk)
theorem Sub.cond2 {cd : Operand} {a b : Code} {K : Ex → St → Option R} (h : Sub E c0 K0 (.cond cd a b) K) : Sub E c0 K0 b K := by
  have hl := h.dl
  have hc := h.dc
  simp only [loopKeys] at hl
  simp only [cutKeys] at hc
  refine ⟨fun key hk => ?_, fun key hk => ?_, (List.nodup_append.1 hl).2.1, (List.nodup_append.1 hc).2.1⟩
  · rw [h.lp key (by simp only [loopKeys, List.mem_append]; exact .inr hk), findLoop]
    refine or_right fun hx => ?_
    exact (List.nodup_append.1 hl).2.2 key ((findLoop_keys E key a _).1 hx) key hk rfl
  · rw [h.ct key (by simp only [cutKeys, List.mem_append]; exact .inr hk), findCut]
    refine or_right fun hx => ?_
    exact (List.nodup_append.1 hc).2.2 key ((findCut_keys E (cutKeys_some E hk) a _).1 hx) key hk rfl
theorem Sub.block {id : Nat} {c : Code} {K : Ex → St → Option R} (h : Sub E c0 K0 (.block id c) K) : Sub E c0 K0 c (blockK id K) :=
  ⟨fun key hk => h.lp key hk, fun key hk => h.ct key hk, h.dl, h.dc⟩
theorem Sub.loop {c : Code} {K : Ex → St → Option R} (h : Sub E c0 K0 (.loop c) K) : Sub E c0 K0 c (loopK E c K) := by
  have hl := h.dl
  simp only [loopKeys, List.nodup_cons] at hl
  refine ⟨fun key hk => ?_, fun key hk => h.ct key hk, hl.2, h.dc⟩
  rw [h.lp key (by simp only [loopKeys, List.mem_cons]; exact .inr hk), findLoop]
  cases hb : Nat.beq (keyOf c) key with
  | true => have := Nat.eq_of_beq_eq_true hb; subst this; exact (hl.1 hk).elim
  | false => rfl

/-- The loops and the cuts of a text, by name. -/
noncomputable def lpOf (E : Env) (c0 : Code) (K0 : Ex → St → Option R) (key : Nat) (l : List KV) : Option R :=
  match findLoop E key c0 K0 with
  | some (b, K) => fix (roundOf (evalCode E) (E.keep key) b K) l
  | none => none
noncomputable def ctOf (E : Env) (c0 : Code) (K0 : Ex → St → Option R) (key : Nat) (l : List KV) : Option R :=
  match findCut E key c0 K0, E.cut key with
  | some (b, K), some keep => cutHere key l fun l => evalCode E b (mk keep l) K
  | _, _ => none

theorem Sub.lpSelf {c : Code} {K : Ex → St → Option R} (h : Sub E c0 K0 (.loop c) K) (l : List KV) : lpOf E c0 K0 (keyOf c) l = fix (roundOf (evalCode E) (E.keep (keyOf c)) c K) l := by
  unfold lpOf
  rw [h.lp (keyOf c) (by simp [loopKeys]), findLoop, Nat.beq_refl]
  rfl
theorem Sub.ctSelf {a b : Code} {K : Ex → St → Option R} (h : Sub E c0 K0 (.seq a b) K) {keep : List Nat} (hk : E.cut (keyOf b) = some keep) (l : List KV) : ctOf E c0 K0 (keyOf b) l = evalCode E b (AI.mk keep l) K := by
  unfold ctOf
  rw [h.ct (keyOf b) (by simp [cutKeys, hk]), findCut, Nat.beq_refl, hk]
  rfl

theorem evalJ_eq (hr : ∀ k, E.roll k = none) : ∀ (c : Code) (K : Ex → St → Option R), Sub E c0 K0 c K → ∀ st, evalJ E (ctOf E c0 K0) (lpOf E c0 K0) c st K = evalCode E c st K := by
  intro c
  induction c with
  | seq a b iha ihb =>
    intro K h st
    simp only [evalJ]
    have e : (fun (ex : Ex) (st' : St) => match ex with
      | .normal => match E.cut (keyOf b) with
        | some keep => ctOf E c0 K0 (keyOf b) (canon keep st')
        | none => evalJ E (ctOf E c0 K0) (lpOf E c0 K0) b st' K
      | .exit i => K (.exit i) st'
      | .ret => K .ret st') = seqK E b K := by
      funext ex st'
      unfold seqK
      cases ex with
      | normal =>
        cases hk : E.cut (keyOf b) with
        | some keep => simp only []; rw [h.ctSelf hk]; rfl
        | none => simp only []; exact ihb K h.seq2 st'
      | exit i => rfl
      | ret => rfl
    rw [e, iha _ h.seq1 st]
    rfl
  | cond cd a b iha ihb =>
    intro K h st
    simp only [evalJ, evalCode]
    have ha := iha K h.cond1
    have hb := ihb K h.cond2
    simp only [ha, hb]
    rfl
  | block id c ih =>
    intro K h st
    exact ih _ h.block st
  | loop c ih =>
    intro K h st
    simp only [evalJ, evalCode, hr]
    rw [h.lpSelf]
  | region id ops draw => intro K h st; rfl
  | skip => intro K h st; rfl
  | label l => intro K h st; rfl
  | exit i => intro K h st; rfl
  | ret => intro K h st; rfl
  | rangeFunc f ps x y _ _ => intro K h st; rfl
  | scope c _ => intro K h st; rfl
  | goto l => intro K h st; rfl
  | refuse why => intro K h st; rfl

theorem seqKJ_eq (hr : ∀ k, E.roll k = none) {a b : Code} {K : Ex → St → Option R} (h : Sub E c0 K0 (.seq a b) K) : seqKJ E (ctOf E c0 K0) (lpOf E c0 K0) b K = seqK E b K := by
  funext ex st'
  unfold seqKJ seqK
  cases ex with
  | normal =>
    cases hk : E.cut (keyOf b) with
    | some keep => simp only []; rw [h.ctSelf hk]; rfl
    | none => simp only []; exact evalJ_eq hr b K h.seq2 st'
  | exit i => rfl
  | ret => rfl
theorem loopKJ_eq {c : Code} {K : Ex → St → Option R} (h : Sub E c0 K0 (.loop c) K) : loopKJ E (lpOf E c0 K0) c K = loopK E c K := by
  funext ex st'
  unfold loopKJ loopK
  cases ex with
  | normal => exact h.lpSelf _
  | exit i => rfl
  | ret => rfl

theorem findLoopJ_eq (hr : ∀ k, E.roll k = none) (key : Nat) : ∀ (c : Code) (K : Ex → St → Option R), Sub E c0 K0 c K → findLoopJ E (ctOf E c0 K0) (lpOf E c0 K0) key c K = findLoop E key c K := by
  intro c
  induction c with
  | seq a b iha ihb =>
    intro K h
    rw [findLoopJ, findLoop, seqKJ_eq hr h, iha _ h.seq1, ihb _ h.seq2]
  | cond cd a b iha ihb =>
    intro K h
    rw [findLoopJ, findLoop, iha _ h.cond1, ihb _ h.cond2]
  | block id c ih => intro K h; rw [findLoopJ, findLoop, ih _ h.block]
  | loop c ih => intro K h; rw [findLoopJ, findLoop, loopKJ_eq h, ih _ h.loop]
  | _ => intro K h; rfl
theorem findCutJ_eq (hr : ∀ k, E.roll k = none) (key : Nat) : ∀ (c : Code) (K : Ex → St → Option R), Sub E c0 K0 c K → findCutJ E (ctOf E c0 K0) (lpOf E c0 K0) key c K = findCut E key c K := by
  intro c
  induction c with
  | seq a b iha ihb =>
    intro K h
    rw [findCutJ, findCut, seqKJ_eq hr h, iha _ h.seq1, ihb _ h.seq2]
  | cond cd a b iha ihb =>
    intro K h
    rw [findCutJ, findCut, iha _ h.cond1, ihb _ h.cond2]
  | block id c ih => intro K h; rw [findCutJ, findCut, ih _ h.block]
  | loop c ih => intro K h; rw [findCutJ, findCut, loopKJ_eq h, ih _ h.loop]
  | _ => intro K h; rfl

/-- Wherever a loop is found, its text lies so. -/
theorem Sub.atLoop : ∀ (c : Code) (K : Ex → St → Option R), Sub E c0 K0 c K → ∀ {key : Nat} {b : Code} {K' : Ex → St → Option R}, findLoop E key c K = some (b, K') → key = keyOf b ∧ Sub E c0 K0 (.loop b) K' := by
  intro c
  induction c with
  | seq a b iha ihb =>
    intro K h key b' K' hf
    rw [findLoop] at hf
    rcases Option.or_eq_some_iff.1 hf with hf | ⟨_, hf⟩
    · exact iha _ h.seq1 hf
    · exact ihb _ h.seq2 hf
  | cond cd a b iha ihb =>
    intro K h key b' K' hf
    rw [findLoop] at hf
    rcases Option.or_eq_some_iff.1 hf with hf | ⟨_, hf⟩
    · exact iha _ h.cond1 hf
    · exact ihb _ h.cond2 hf
  | block id c ih => intro K h key b' K' hf; exact ih _ h.block hf
  | loop c ih =>
    intro K h key b' K' hf
    rw [findLoop] at hf
    cases hb : Nat.beq (keyOf c) key with
    | true =>
      rw [hb] at hf
      cases hf
      exact ⟨(Nat.eq_of_beq_eq_true hb).symm, h⟩
    | false => rw [hb] at hf; exact ih _ h.loop hf
  | _ => intro K h key b' K' hf; simp [findLoop] at hf
theorem Sub.atCut : ∀ (c : Code) (K : Ex → St → Option R), Sub E c0 K0 c K → ∀ {key : Nat} {b : Code} {K' : Ex → St → Option R}, findCut E key c K = some (b, K') → Sub E c0 K0 b K' := by
  intro c
  induction c with
  | seq a b iha ihb =>
    intro K h key b' K' hf
    rw [findCut] at hf
    cases hb : Nat.beq (keyOf b) key with
    | true => rw [hb] at hf; cases hf; exact h.seq2
    | false =>
      rw [hb] at hf
      rcases Option.or_eq_some_iff.1 hf with hf | ⟨_, hf⟩
      · exact iha _ h.seq1 hf
      · exact ihb _ h.seq2 hf
  | cond cd a b iha ihb =>
    intro K h key b' K' hf
    rw [findCut] at hf
    rcases Option.or_eq_some_iff.1 hf with hf | ⟨_, hf⟩
    · exact iha _ h.cond1 hf
    · exact ihb _ h.cond2 hf
  | block id c ih => intro K h key b' K' hf; exact ih _ h.block hf
  | loop c ih => intro K h key b' K' hf; exact ih _ h.loop hf
  | _ => intro K h key b' K' hf; simp [findCut] at hf
end

/-- What is asked of a text's names, to be computed. -/
def namesOk (E : Env) (c : Code) : Bool := nodup (loopKeys c) && nodup (cutKeys E c)

theorem sub_self {E : Env} {c : Code} {K : Ex → St → Option (List D)} (h : namesOk E c = true) : Sub E c K c K := by
  unfold namesOk at h
  rw [Bool.and_eq_true, nodup_iff, nodup_iff] at h
  exact ⟨fun _ _ => rfl, fun _ _ => rfl, h.1, h.2⟩

section
variable (E : Env) (fn : Func) (c : Code)
noncomputable def startJ (J L : Nat → List KV → Option (List D)) (ds : List D) : Option (List D) :=
  evalJ E J L c ⟨argFr ds, fun _ => none, 0⟩ (endK E fn)
noncomputable def roundJ (J L : Nat → List KV → Option (List D)) (key : Nat) (l : List KV) : Option (List D) :=
  match findLoopJ E J L key c (endK E fn) with
  | some (b, K) => evalJ E J L b (mk (E.keep key) l) fun ex st' => match ex with
    | .normal => L key (canon (E.keep key) st')
    | .exit i => K (.exit i) st'
    | .ret => K .ret st'
  | none => none
noncomputable def cutJ (J L : Nat → List KV → Option (List D)) (key : Nat) (l : List KV) : Option (List D) :=
  match findCutJ E J L key c (endK E fn), E.cut key with
  | some (b, K), some keep => evalJ E J L b (mk keep l) K
  | _, _ => none
end

variable {E : Env} {fn : Func} {c : Code}
theorem cutAt_ct : cutAt E fn c = ctOf E c (endK E fn) := by
  funext key l
  unfold cutAt ctOf
  cases findCut E key c (endK E fn) <;> cases E.cut key <;> rfl
theorem loopAt_lp : loopAt E fn c = lpOf E c (endK E fn) := by
  funext key l
  unfold loopAt lpOf
  cases findLoop E key c (endK E fn) <;> rfl
/- Behind these names the kernel never looks. -/
theorem ctO_ex (E : Env) (fn : Func) (c : Code) : ∃ f : Nat → List KV → Option (List D), f = cutAt E fn c := ⟨_, rfl⟩
noncomputable def ctO (E : Env) (fn : Func) (c : Code) : Nat → List KV → Option (List D) := Classical.choose (ctO_ex E fn c)
theorem ctO_eq : ctO E fn c = cutAt E fn c := Classical.choose_spec (ctO_ex E fn c)
theorem lpO_ex (E : Env) (fn : Func) (c : Code) : ∃ f : Nat → List KV → Option (List D), f = loopAt E fn c := ⟨_, rfl⟩
noncomputable def lpO (E : Env) (fn : Func) (c : Code) : Nat → List KV → Option (List D) := Classical.choose (lpO_ex E fn c)
theorem lpO_eq : lpO E fn c = loopAt E fn c := Classical.choose_spec (lpO_ex E fn c)

theorem evalFn_J (hr : E.roll = fun _ => none) (h : namesOk E c = true) (ds : List D) : evalFn E fn c ds = startJ E fn c (ctO E fn c) (lpO E fn c) ds := by
  rw [ctO_eq, lpO_eq, cutAt_ct, loopAt_lp]
  exact (evalJ_eq (c0 := c) (K0 := endK E fn) (fun k => by rw [hr]) c (endK E fn) (sub_self h) _).symm
theorem loopAt_J (hr : E.roll = fun _ => none) (h : namesOk E c = true) (key : Nat) (l : List KV) : lpO E fn c key l = roundJ E fn c (ctO E fn c) (lpO E fn c) key l := by
  rw [ctO_eq, lpO_eq, loopAt_eq, cutAt_ct, loopAt_lp]
  unfold roundAt roundJ
  have hs := sub_self (K := endK E fn) h
  have e := findLoopJ_eq (c0 := c) (K0 := endK E fn) (fun k => by rw [hr]) key c (endK E fn) hs
  rw [e]
  cases hf : findLoop E key c (endK E fn) with
  | none => rfl
  | some p =>
    obtain ⟨b, K⟩ := p
    simp only []
    obtain ⟨rfl, hb⟩ := Sub.atLoop c (endK E fn) hs hf
    have e2 : (fun (ex : Ex) (st' : St) => match ex with
      | .normal => lpOf E c (endK E fn) (keyOf b) (canon (E.keep (keyOf b)) st')
      | .exit i => K (.exit i) st'
      | .ret => K .ret st') = loopK E b K := loopKJ_eq hb
    rw [e2]
    exact (evalJ_eq (c0 := c) (K0 := endK E fn) (fun k => by rw [hr]) b _ hb.loop _).symm
theorem cutAt_J (hr : E.roll = fun _ => none) (h : namesOk E c = true) (key : Nat) (l : List KV) : ctO E fn c key l = cutJ E fn c (ctO E fn c) (lpO E fn c) key l := by
  rw [ctO_eq, lpO_eq, cutAt_eq, cutAt_ct, loopAt_lp]
  unfold cutOpen cutJ
  have hs := sub_self (K := endK E fn) h
  have e := findCutJ_eq (c0 := c) (K0 := endK E fn) (fun k => by rw [hr]) key c (endK E fn) hs
  rw [e]
  cases hf : findCut E key c (endK E fn) with
  | none => rfl
  | some p =>
    obtain ⟨b, K⟩ := p
    cases hc : E.cut key with
    | none => rfl
    | some keep => exact (evalJ_eq (c0 := c) (K0 := endK E fn) (fun k => by rw [hr]) b _ (Sub.atCut c _ hs hf) _).symm

end Go.Proofs.YtfebndgmmekmgaaGreatDoor.AI

/- Contracts by parameters. -/
namespace Go.Proofs.YtfebndgmmekmgaaGreatDoor.AI
open Go Go.RowKit

/-- How an argument is read, and what it is then taken for. -/
structure Par (α : Type) where
  put : α → D
  get : D → Option α
  le : ∀ {d x}, get d = some x → DLe d (put x)

def pI (k : IntKind) : Par (List Int) := ⟨fun a => .s (.ints k a), dI k, dI_le⟩
def pN (k : IntKind) : Par Int := ⟨fun n => .s (.sc (.int k n)), dN k, dN_le⟩
def pB : Par Bool := ⟨fun b => .s (.sc (.bool b)), dB, dB_le⟩
def dF (k : FloatKind) : D → Option Nat
  | .s (.sc (.float k' b)) => if _h : k = k' then some b else none
  | _ => none
theorem dF_le {k : FloatKind} {d : D} {n : Nat} (h : dF k d = some n) : DLe d (.s (.sc (.float k n))) := by
  unfold dF at h
  split at h
  · split at h
    · rename_i hk; cases h; subst hk; exact DLe.refl _
    · cases h
  · cases h
def pF (k : FloatKind) : Par Nat := ⟨fun b => .s (.sc (.float k b)), dF k, dF_le⟩
/-- Anything at all. -/
def pD : Par D := ⟨fun d => d, some, fun h => by cases h; exact DLe.refl _⟩

/-- The cells of a struct. -/
structure SPar (α : Type) where
  n : Nat
  put : α → List S
  get : List S → Option α
  le : ∀ {d x}, get d = some x → d.length = n ∧ (put x).length = n ∧ ∀ (i : Nat) (s s' : S), d[i]? = some s → (put x)[i]? = some s' → ∀ X w v, RepS X w s v → RepS X w s' v
def sOf {α : Type} (p : Par α) (put : α → S) (h : ∀ x, p.put x = .s (put x)) : SPar α where
  n := 1
  put x := [put x]
  get
    | [s] => p.get (.s s)
    | _ => none
  le := by
    intro d x hd
    match d, hd with
    | [s], hd =>
      refine ⟨rfl, rfl, fun i s1 s2 h1 h2 => ?_⟩
      match i with
      | 0 =>
        simp at h1 h2
        subst h1; subst h2
        intro X w v hr
        have := p.le hd X w v hr
        rw [h] at this
        exact this
      | i + 1 => simp at h1
def sI (k : IntKind) : SPar (List Int) := sOf (pI k) (fun a => .ints k a) fun _ => rfl
def sN (k : IntKind) : SPar Int := sOf (pN k) (fun n => .sc (.int k n)) fun _ => rfl
def sB : SPar Bool := sOf pB (fun b => .sc (.bool b)) fun _ => rfl
def sF (k : FloatKind) : SPar Nat := sOf (pF k) (fun b => .sc (.float k b)) fun _ => rfl
def SPar.pair {α β : Type} (p : SPar α) (q : SPar β) : SPar (α × β) where
  n := p.n + q.n
  put x := p.put x.1 ++ q.put x.2
  get d := match p.get (d.take p.n), q.get (d.drop p.n) with
    | some a, some b => some (a, b)
    | _, _ => none
  le := by
    intro d x h
    split at h
    · rename_i a b ha hb
      cases h
      obtain ⟨a1, a2, a3⟩ := p.le ha
      obtain ⟨b1, b2, b3⟩ := q.le hb
      simp only [List.length_take, List.length_drop] at a1 b1
      have a2' : (p.put (a, b).fst).length = p.n := a2
      refine ⟨by omega, by simp [a2, b2], fun i s s' h1 h2 => ?_⟩
      by_cases hi : i < p.n
      · rw [List.getElem?_append_left (by rw [a2']; exact hi)] at h2
        exact a3 i s s' (by rw [List.getElem?_take_of_lt hi]; exact h1) h2
      · rw [List.getElem?_append_right (by rw [a2']; omega), a2'] at h2
        exact b3 (i - p.n) s s' (by rw [List.getElem?_drop, show p.n + (i - p.n) = i from by omega]; exact h1) h2
    · cases h
def pG {α : Type} (p : SPar α) : Par α where
  put x := .agg (p.put x)
  get
    | .agg cs => p.get cs
    | _ => none
  le := by
    intro d x h
    match d, h with
    | .agg cs, h =>
      obtain ⟨h1, h2, h3⟩ := p.le h
      rintro Y w v ⟨arr, rfl, hl, hr⟩
      refine ⟨arr, rfl, by omega, fun i s u hs hu => ?_⟩
      obtain ⟨s0, hs0⟩ := getElem?_of_lt (l := cs) (i := i) (by have := getElem?_lt hs; omega)
      exact h3 i s0 s hs0 hs Y w u (hr i s0 u hs0 hu)

/-- A result, told with less. -/
def RLe (d d' : D) : Prop := (d' = d) ∨ (isOwn d' = false ∧ ((∃ e k ns, d = .own e k ns ∧ d' = .s (.ints k ns)) ∨ (isOwn d = false ∧ DLe d d')))
theorem RLe.refl (d : D) : RLe d d := .inl rfl
theorem RLe.own (e : TypeId) (k : IntKind) (ns : List Int) : RLe (.own e k ns) (.s (.ints k ns)) := .inr ⟨rfl, .inl ⟨e, k, ns, rfl, rfl⟩⟩
theorem RLe.nil (k : IntKind) : RLe (.s (.sc (.slice none 0 0))) (.s (.ints k [])) :=
  .inr ⟨rfl, .inr ⟨rfl, fun Y w v h => by obtain ⟨rfl, _⟩ := h; exact ⟨none, 0, rfl, Nat.le_refl _, fun i n hn => by simp at hn⟩⟩⟩
/-- Cells, told with less. -/
def SLe (s s' : S) : Prop := ∀ X w v, RepS X w s v → RepS X w s' v
theorem SLe.refl (s : S) : SLe s s := fun _ _ _ h => h
theorem SLe.nil (k : IntKind) : SLe (.sc (.slice none 0 0)) (.ints k []) := fun X w v h => by
  obtain ⟨rfl, _⟩ := h
  exact ⟨none, 0, rfl, Nat.le_refl _, fun i n hn => by simp at hn⟩
inductive CsLe : List S → List S → Prop where
  | nil : CsLe [] []
  | cons {s s' : S} {l l' : List S} : SLe s s' → CsLe l l' → CsLe (s :: l) (s' :: l')
theorem CsLe.refl : ∀ l, CsLe l l
  | [] => .nil
  | s :: l => .cons (SLe.refl s) (CsLe.refl l)
theorem CsLe.len {l l' : List S} (h : CsLe l l') : l.length = l'.length := by induction h with | nil => rfl | cons _ _ ih => simp [ih]
theorem CsLe.at {l l' : List S} (h : CsLe l l') : ∀ {i : Nat} {s s' : S}, l[i]? = some s → l'[i]? = some s' → SLe s s' := by
  induction h with
  | nil => intro i s s' h; simp at h
  | cons hs _ ih =>
    intro i s s' h1 h2
    cases i with
    | zero => simp at h1 h2; subst h1; subst h2; exact hs
    | succ i => simp at h1 h2; exact ih h1 h2
theorem RLe.agg {l l' : List S} (h : CsLe l l') : RLe (.agg l) (.agg l') :=
  .inr ⟨rfl, .inr ⟨rfl, fun Y w v hv => by
    obtain ⟨arr, rfl, hl, hr⟩ := hv
    refine ⟨arr, rfl, by rw [← h.len]; exact hl, fun i s u hs hu => ?_⟩
    obtain ⟨s0, hs0⟩ := getElem?_of_lt (l := l) (i := i) (by have := getElem?_lt hs; rw [h.len]; exact this)
    exact h.at hs0 hs Y w u (hr i s0 u hs0 hu)⟩⟩
/-- Of each result. -/
inductive RsLe : List D → List D → Prop where
  | nil : RsLe [] []
  | cons {s s' : D} {l l' : List D} : RLe s s' → RsLe l l' → RsLe (s :: l) (s' :: l')
theorem RsLe.refl : ∀ l, RsLe l l
  | [] => .nil
  | s :: l => .cons (RLe.refl s) (RsLe.refl l)
theorem RsLe.len {l l' : List D} (h : RsLe l l') : l.length = l'.length := by induction h with | nil => rfl | cons _ _ ih => simp [ih]
theorem RsLe.at {l l' : List D} (h : RsLe l l') : ∀ {i : Nat} {s s' : D}, l[i]? = some s → l'[i]? = some s' → RLe s s' := by
  induction h with
  | nil => intro i s s' h; simp at h
  | cons hs _ ih =>
    intro i s s' h1 h2
    cases i with
    | zero => simp at h1 h2; subst h1; subst h2; exact hs
    | succ i => simp at h1 h2; exact ih h1 h2
theorem Contract.less {P : Program} {G : Nat → Option (IntKind × List Int)} {f : FuncId} {ds rs rs' : List D} (h : Contract P G f ds rs) (hr : RsLe rs rs') : Contract P G f ds rs' := by
  intro Y w vs hY hG hlen hargs
  refine (h Y w vs hY hG hlen hargs).mono ?_
  rintro e w' ⟨vs', he, hb, g, hl, hinj, hres⟩
  have hown : ∀ {i : Nat} {d d' : D}, rs[i]? = some d → rs'[i]? = some d' → isOwn d' = true → d' = d := by
    intro i d d' h1 h2 ho
    rcases hr.at h1 h2 with h3 | ⟨h3, _⟩
    · exact h3
    · rw [h3] at ho; cases ho
  have hget : ∀ {i : Nat} {d' : D}, rs'[i]? = some d' → ∃ d, rs[i]? = some d := fun {i d'} h => getElem?_of_lt (l := rs) (i := i) (by have := getElem?_lt h; rw [hr.len]; exact this)
  have hsub : ∀ b, (Y b ∨ ∃ (j : Nat) (d' : D), rs'[j]? = some d' ∧ isOwn d' = true ∧ g j = b) → (Y b ∨ ∃ (j : Nat) (d' : D), rs[j]? = some d' ∧ isOwn d' = true ∧ g j = b) := by
    rintro b (hb | ⟨j, d', h1, h2, h3⟩)
    · exact .inl hb
    · obtain ⟨d, hd⟩ := hget h1
      have := hown hd h1 h2
      subst this
      exact .inr ⟨j, d', hd, h2, h3⟩
  refine ⟨vs', he, hb, g, by rw [← hr.len]; exact hl, ?_, ?_⟩
  · intro i j d d' h1 h2 h3 h4 h5
    obtain ⟨e1, he1⟩ := hget h1
    obtain ⟨e2, he2⟩ := hget h2
    have q1 := hown he1 h1 h3
    have q2 := hown he2 h2 h4
    subst q1; subst q2
    exact hinj i j _ _ he1 he2 h3 h4 h5
  · intro i d' v h1 hv
    obtain ⟨d, hd⟩ := hget h1
    have hdv := hres i d v hd hv
    have hlater : ∀ (X : Nat → Prop), (∀ b, X b → (Y b ∨ ∃ (j : Nat) (d' : D), rs[j]? = some d' ∧ isOwn d' = true ∧ g j = b)) → Later (fun b => Y b ∨ ∃ (j : Nat) (d' : D), rs[j]? = some d' ∧ isOwn d' = true ∧ g j = b) w' X w' :=
      fun X hX => ⟨Nat.le_refl _, fun b _ hn => ⟨rfl, fun hx => hn (hX b hx)⟩⟩
    have hre : ∀ {x : D}, isOwn x = false → RepD (fun b => Y b ∨ ∃ (j : Nat) (d' : D), rs[j]? = some d' ∧ isOwn d' = true ∧ g j = b) w' x v → RepD (fun b => Y b ∨ ∃ (j : Nat) (d' : D), rs'[j]? = some d' ∧ isOwn d' = true ∧ g j = b) w' x v :=
      fun _ hx => hx.later (hlater _ hsub)
    have hnon : ∀ {x : D}, isOwn x = false → (match x with
      | .own e k ns => OwnAt w.heap.size w' (g i) e k ns v
      | d => RepD (fun b => Y b ∨ ∃ (j : Nat) (d' : D), rs[j]? = some d' ∧ isOwn d' = true ∧ g j = b) w' d v) → RepD (fun b => Y b ∨ ∃ (j : Nat) (d' : D), rs[j]? = some d' ∧ isOwn d' = true ∧ g j = b) w' x v := by
      intro x hx hm
      cases x with
      | own e k ns => cases hx
      | s x => exact hm
      | rows a b c => exact hm
      | agg cs => exact hm
    have hback : ∀ {x : D}, isOwn x = false → RepD (fun b => Y b ∨ ∃ (j : Nat) (d' : D), rs'[j]? = some d' ∧ isOwn d' = true ∧ g j = b) w' x v → (match x with
      | .own e k ns => OwnAt w.heap.size w' (g i) e k ns v
      | d => RepD (fun b => Y b ∨ ∃ (j : Nat) (d' : D), rs'[j]? = some d' ∧ isOwn d' = true ∧ g j = b) w' d v) := by
      intro x hx hm
      cases x with
      | own e k ns => cases hx
      | s x => exact hm
      | rows a b c => exact hm
      | agg cs => exact hm
    rcases hr.at hd h1 with rfl | ⟨h3, ⟨e0, k, ns, rfl, rfl⟩ | ⟨h4, h5⟩⟩
    · cases hod : isOwn d' with
      | true =>
        cases d' with
        | own e k ns => exact hdv
        | s x => cases hod
        | rows a b c => cases hod
        | agg cs => cases hod
      | false => exact hback hod (hre hod (hnon hod hdv))
    · obtain ⟨arr, hv2, hbg, hh, hn1, hn2, hcs⟩ := hdv
      refine ⟨_, _, hv2, hn1, fun j n hj => ⟨g i, 0, rfl, ?_, ?_, ?_⟩⟩
      · exact (Array.getElem?_eq_some_iff.1 hh).1
      · rintro (hy | ⟨j', d', q1, q2, q3⟩)
        · have := hY _ hy; omega
        · obtain ⟨d2, hd2⟩ := hget q1
          have := hown hd2 q1 q2
          subst this
          have := hinj j' i _ _ hd2 hd q2 rfl q3
          subst this
          rw [h1] at q1
          cases q1
          cases q2
      · rw [cell_of_row w' (g i) _ arr e0 (0, 0) hh]
        simpa using hcs j n hj
    · exact hback h3 (h5 _ _ _ (hre h4 (hnon h4 hdv)))

def orc0 (r : Prop × List D) : Orc
  | [] => some r
  | _ => none
def orc1 {α : Type} (p : Par α) (f : α → Prop × List D) : Orc
  | [a] => match p.get a with
    | some x => some (f x)
    | none => none
  | _ => none
def orc2 {α β : Type} (p : Par α) (q : Par β) (f : α → β → Prop × List D) : Orc
  | [a, b] => match p.get a, q.get b with
    | some x, some y => some (f x y)
    | _, _ => none
  | _ => none
def orc3 {α β γ : Type} (p : Par α) (q : Par β) (r : Par γ) (f : α → β → γ → Prop × List D) : Orc
  | [a, b, c] => match p.get a, q.get b, r.get c with
    | some x, some y, some z => some (f x y z)
    | _, _, _ => none
  | _ => none
def orc4 {α β γ δ : Type} (p : Par α) (q : Par β) (r : Par γ) (s : Par δ) (f : α → β → γ → δ → Prop × List D) : Orc
  | [a, b, c, d] => match p.get a, q.get b, r.get c, s.get d with
    | some x, some y, some z, some u => some (f x y z u)
    | _, _, _, _ => none
  | _ => none

/-- What stands about a function, apart from its specification. -/
structure FnOk (P : Program) (E : Env) (f : FuncId) (fn : Func) (c : Code) : Prop where
  ty : TyOk P E.T
  calls : CallsOk P E
  mix : P.follows .mixedOrders = true
  fnc : P.funcs[f]? = some fn
  body : fn.body = some c
  nt : E.nt = fn.ntmps
  has : HasBody P f
theorem fnOk {P : Program} {E : Env} {f : FuncId} {fn : Func} {c : Code} (ty : TyOk P E.T) (mix : P.follows .mixedOrders = true) (calls : CallsOk P E) (hf : P.funcs[f]? = some fn) (hb : fn.body = some c) (nt : E.nt = fn.ntmps) (hn : (fn.name == "runtime.NumGoroutine") = false) : FnOk P E f fn c :=
  ⟨ty, calls, mix, hf, hb, nt, hasBody_of hf hb hn⟩

variable {P : Program} {E : Env} {f : FuncId} {fn : Func} {c : Code}
theorem FnOk.ok0 (h : FnOk P E f fn c) {r : Prop × List D} (hs : r.1 → evalFn E fn c [] = some r.2) : OrcOk P E.glob f (orc0 r) := by
  intro ds g rs hd hg
  unfold orc0 at hd
  split at hd
  · cases hd
    exact ⟨fn_contract h.ty h.calls h.mix h.fnc h.body h.nt (Nat.zero_le _) (hs hg), h.has⟩
  · cases hd
theorem FnOk.ok1 {α : Type} (h : FnOk P E f fn c) {p : Par α} {g : α → Prop × List D} (hn : Nat.ble 1 fn.ntmps = true) (hs : ∀ x, (g x).1 → evalFn E fn c [p.put x] = some (g x).2) : OrcOk P E.glob f (orc1 p g) := by
  intro ds q rs hd hg
  unfold orc1 at hd
  split at hd
  · split at hd
    · rename_i x hx
      have hd := Option.some.inj hd
      have e1 : q = (g x).1 := by rw [hd]
      have e2 : rs = (g x).2 := by rw [hd]
      subst e1; subst e2
      exact ⟨(fn_contract (ds := [p.put x]) h.ty h.calls h.mix h.fnc h.body h.nt (Nat.le_of_ble_eq_true hn) (hs x hg)).of1 (p.le hx), h.has⟩
    · cases hd
  · cases hd
theorem FnOk.ok2 {α β : Type} (h : FnOk P E f fn c) {p : Par α} {p' : Par β} {g : α → β → Prop × List D} (hn : Nat.ble 2 fn.ntmps = true) (hs : ∀ x y, (g x y).1 → evalFn E fn c [p.put x, p'.put y] = some (g x y).2) : OrcOk P E.glob f (orc2 p p' g) := by
  intro ds q rs hd hg
  unfold orc2 at hd
  split at hd
  · split at hd
    · rename_i x y hx hy
      have hd := Option.some.inj hd
      have e1 : q = (g x y).1 := by rw [hd]
      have e2 : rs = (g x y).2 := by rw [hd]
      subst e1; subst e2
      exact ⟨(fn_contract (ds := [p.put x, p'.put y]) h.ty h.calls h.mix h.fnc h.body h.nt (Nat.le_of_ble_eq_true hn) (hs x y hg)).of2 (p.le hx) (p'.le hy), h.has⟩
    · cases hd
  · cases hd
theorem FnOk.ok3 {α β γ : Type} (h : FnOk P E f fn c) {p : Par α} {p' : Par β} {p'' : Par γ} {g : α → β → γ → Prop × List D} (hn : Nat.ble 3 fn.ntmps = true) (hs : ∀ x y z, (g x y z).1 → evalFn E fn c [p.put x, p'.put y, p''.put z] = some (g x y z).2) : OrcOk P E.glob f (orc3 p p' p'' g) := by
  intro ds q rs hd hg
  unfold orc3 at hd
  split at hd
  · split at hd
    · rename_i x y z hx hy hz
      have hd := Option.some.inj hd
      have e1 : q = (g x y z).1 := by rw [hd]
      have e2 : rs = (g x y z).2 := by rw [hd]
      subst e1; subst e2
      exact ⟨(fn_contract (ds := [p.put x, p'.put y, p''.put z]) h.ty h.calls h.mix h.fnc h.body h.nt (Nat.le_of_ble_eq_true hn) (hs x y z hg)).of3 (p.le hx) (p'.le hy) (p''.le hz), h.has⟩
    · cases hd
  · cases hd
theorem FnOk.ok4 {α β γ δ : Type} (h : FnOk P E f fn c) {p : Par α} {p' : Par β} {p'' : Par γ} {p3 : Par δ} {g : α → β → γ → δ → Prop × List D} (hn : Nat.ble 4 fn.ntmps = true) (hs : ∀ x y z u, (g x y z u).1 → evalFn E fn c [p.put x, p'.put y, p''.put z, p3.put u] = some (g x y z u).2) : OrcOk P E.glob f (orc4 p p' p'' p3 g) := by
  intro ds q rs hd hg
  unfold orc4 at hd
  split at hd
  · split at hd
    · rename_i x y z u hx hy hz hu
      have hd := Option.some.inj hd
      have e1 : q = (g x y z u).1 := by rw [hd]
      have e2 : rs = (g x y z u).2 := by rw [hd]
      subst e1; subst e2
      exact ⟨(fn_contract (ds := [p.put x, p'.put y, p''.put z, p3.put u]) h.ty h.calls h.mix h.fnc h.body h.nt (Nat.le_of_ble_eq_true hn) (hs x y z u hg)).of4 (p.le hx) (p'.le hy) (p''.le hz) (p3.le hu), h.has⟩
    · cases hd
  · cases hd


theorem FnOk.wk0 (h : FnOk P E f fn c) {r : Prop × List D} (hs : r.1 → ∃ rs, evalFn E fn c [] = some rs ∧ RsLe rs r.2) : OrcOk P E.glob f (orc0 r) := by
  intro ds g rs hd hg
  unfold orc0 at hd
  split at hd
  · cases hd
    obtain ⟨rs, he, hle⟩ := hs hg
    exact ⟨(fn_contract h.ty h.calls h.mix h.fnc h.body h.nt (Nat.zero_le _) he).less hle, h.has⟩
  · cases hd
theorem FnOk.wk1 {α : Type} (h : FnOk P E f fn c) {p : Par α} {g : α → Prop × List D} (hn : Nat.ble 1 fn.ntmps = true) (hs : ∀ x, (g x).1 → ∃ rs, evalFn E fn c [p.put x] = some rs ∧ RsLe rs (g x).2) : OrcOk P E.glob f (orc1 p g) := by
  intro ds q rs hd hg
  unfold orc1 at hd
  split at hd
  · split at hd
    · rename_i x hx
      have hd := Option.some.inj hd
      have e1 : q = (g x).1 := by rw [hd]
      have e2 : rs = (g x).2 := by rw [hd]
      subst e1; subst e2
      obtain ⟨rs2, he, hle⟩ := hs x hg
      exact ⟨((fn_contract (ds := [p.put x]) h.ty h.calls h.mix h.fnc h.body h.nt (Nat.le_of_ble_eq_true hn) he).of1 (p.le hx)).less hle, h.has⟩
    · cases hd
  · cases hd
theorem FnOk.wk2 {α β : Type} (h : FnOk P E f fn c) {p : Par α} {p' : Par β} {g : α → β → Prop × List D} (hn : Nat.ble 2 fn.ntmps = true) (hs : ∀ x y, (g x y).1 → ∃ rs, evalFn E fn c [p.put x, p'.put y] = some rs ∧ RsLe rs (g x y).2) : OrcOk P E.glob f (orc2 p p' g) := by
  intro ds q rs hd hg
  unfold orc2 at hd
  split at hd
  · split at hd
    · rename_i x y hx hy
      have hd := Option.some.inj hd
      have e1 : q = (g x y).1 := by rw [hd]
      have e2 : rs = (g x y).2 := by rw [hd]
      subst e1; subst e2
      obtain ⟨rs2, he, hle⟩ := hs x y hg
      exact ⟨((fn_contract (ds := [p.put x, p'.put y]) h.ty h.calls h.mix h.fnc h.body h.nt (Nat.le_of_ble_eq_true hn) he).of2 (p.le hx) (p'.le hy)).less hle, h.has⟩
    · cases hd
  · cases hd
theorem FnOk.wk3 {α β γ : Type} (h : FnOk P E f fn c) {p : Par α} {p' : Par β} {p'' : Par γ} {g : α → β → γ → Prop × List D} (hn : Nat.ble 3 fn.ntmps = true) (hs : ∀ x y z, (g x y z).1 → ∃ rs, evalFn E fn c [p.put x, p'.put y, p''.put z] = some rs ∧ RsLe rs (g x y z).2) : OrcOk P E.glob f (orc3 p p' p'' g) := by
  intro ds q rs hd hg
  unfold orc3 at hd
  split at hd
  · split at hd
    · rename_i x y z hx hy hz
      have hd := Option.some.inj hd
      have e1 : q = (g x y z).1 := by rw [hd]
      have e2 : rs = (g x y z).2 := by rw [hd]
      subst e1; subst e2
      obtain ⟨rs2, he, hle⟩ := hs x y z hg
      exact ⟨((fn_contract (ds := [p.put x, p'.put y, p''.put z]) h.ty h.calls h.mix h.fnc h.body h.nt (Nat.le_of_ble_eq_true hn) he).of3 (p.le hx) (p'.le hy) (p''.le hz)).less hle, h.has⟩
    · cases hd
  · cases hd
theorem FnOk.wk4 {α β γ δ : Type} (h : FnOk P E f fn c) {p : Par α} {p' : Par β} {p'' : Par γ} {p3 : Par δ} {g : α → β → γ → δ → Prop × List D} (hn : Nat.ble 4 fn.ntmps = true) (hs : ∀ x y z u, (g x y z u).1 → ∃ rs, evalFn E fn c [p.put x, p'.put y, p''.put z, p3.put u] = some rs ∧ RsLe rs (g x y z u).2) : OrcOk P E.glob f (orc4 p p' p'' p3 g) := by
  intro ds q rs hd hg
  unfold orc4 at hd
  split at hd
  · split at hd
    · rename_i x y z u hx hy hz hu
      have hd := Option.some.inj hd
      have e1 : q = (g x y z u).1 := by rw [hd]
      have e2 : rs = (g x y z u).2 := by rw [hd]
      subst e1; subst e2
      obtain ⟨rs2, he, hle⟩ := hs x y z u hg
      exact ⟨((fn_contract (ds := [p.put x, p'.put y, p''.put z, p3.put u]) h.ty h.calls h.mix h.fnc h.body h.nt (Nat.le_of_ble_eq_true hn) he).of4 (p.le hx) (p'.le hy) (p''.le hz) (p3.le hu)).less hle, h.has⟩
    · cases hd
  · cases hd



/- Functions without a Go text. -/
def extIs (f : FuncId) (g : List Value → Option (Prop × List Value)) (r : FuncId → List Value → Option (Prop × List Value)) : FuncId → List Value → Option (Prop × List Value) := fun f' vs => bif Nat.beq f' f then g vs else r f' vs
def extNone : FuncId → List Value → Option (Prop × List Value) := fun _ _ => none
theorem extNone_ok : ExtOk P extNone := fun _ _ _ _ h => by cases h
/-- One such function is what the model says. -/
structure ExtFn (P : Program) (f : FuncId) (e : Array Value → Sem Value) : Prop where
  run : ∀ (args : Array Value) (w : World), (callFunc f args).run P w = ((e args).run P w).andThen fun v w' => .ok (.value v) w'
theorem extIs_ok {f : FuncId} {g : List Value → Option (Prop × List Value)} {r : FuncId → List Value → Option (Prop × List Value)} {e : Array Value → Sem Value} (hf : ExtFn P f e)
    (hg : ∀ vs q rs, g vs = some (q, rs) → q → (∀ v ∈ rs, v.oneCell' = true) ∧ ∀ w, (e vs.toArray).run P w = .ok (resV rs) w) (hr : ExtOk P r) : ExtOk P (extIs f g r) := by
  intro f' vs q rs h hq
  unfold extIs at h
  cases hb : Nat.beq f' f with
  | true =>
    rw [hb] at h
    have := Nat.eq_of_beq_eq_true hb
    subst this
    obtain ⟨h1, h2⟩ := hg vs q rs h hq
    exact ⟨h1, fun w => by rw [hf.run, h2]; rfl⟩
  | false => rw [hb] at h; exact hr f' vs q rs h hq
def gBits : List Value → Option (Prop × List Value)
  | [.float .f64 b] => some (True, [.int .u64 b])
  | _ => none
theorem gBits_ok (vs : List Value) (q : Prop) (rs : List Value) (h : gBits vs = some (q, rs)) (_ : q) : (∀ v ∈ rs, v.oneCell' = true) ∧ ∀ w, (Extern.MathFloatBits.float64bits vs.toArray).run P w = .ok (resV rs) w := by
  unfold gBits at h
  split at h
  · cases h
    exact ⟨by simp [Value.oneCell'], fun w => rfl⟩
  · cases h
def gFrom : List Value → Option (Prop × List Value)
  | [.int .u64 n] => some (True, [.float .f64 n.toNat])
  | _ => none
theorem gFrom_ok (vs : List Value) (q : Prop) (rs : List Value) (h : gFrom vs = some (q, rs)) (_ : q) : (∀ v ∈ rs, v.oneCell' = true) ∧ ∀ w, (Extern.MathFloatBits.float64frombits vs.toArray).run P w = .ok (resV rs) w := by
  unfold gFrom at h
  split at h
  · cases h
    exact ⟨by simp [Value.oneCell'], fun w => rfl⟩
  · cases h

def gAdd : List Value → Option (Prop × List Value)
  | [.int .u64 x, .int .u64 y, .int .u64 c] => some ((0 ≤ x ∧ 0 ≤ y ∧ 0 ≤ c ∧ c ≤ 1), [.int .u64 ((x + y + c) % 18446744073709551616), .int .u64 ((x + y + c) / 18446744073709551616)])
  | _ => none
theorem gAdd_ok (vs : List Value) (q : Prop) (rs : List Value) (h : gAdd vs = some (q, rs)) (hq : q) : (∀ v ∈ rs, v.oneCell' = true) ∧ ∀ w, (add64Entry vs.toArray).run P w = .ok (resV rs) w := by
  unfold gAdd at h
  split at h
  · cases h
    obtain ⟨h1, h2, h3, h4⟩ := hq
    exact ⟨by simp [Value.oneCell'], fun w => run_add64 _ _ _ h1 h2 h3 h4 w⟩
  · cases h
def sub64Entry : Array Value → Sem Value := fun args => do
  let (x, y, b) ← Extern.MathBitsCarry.three "Sub64" args
  pure (Extern.MathBitsCarry.pair ((x + Extern.MathBitsCarry.m64 - y - b) % Extern.MathBitsCarry.m64) (if x < y + b then 1 else 0))
theorem run_sub64 (x y c : Int) (hx : 0 ≤ x) (hy : 0 ≤ y) (hy' : y < 18446744073709551616) (hc0 : 0 ≤ c) (hc : c ≤ 1) (w : World) :
    (sub64Entry #[.int .u64 x, .int .u64 y, .int .u64 c]).run P w =
      .ok (.tuple #[.int .u64 ((x - y - c) % 18446744073709551616), .int .u64 (if x < y + c then 1 else 0)]) w := by
  have key : ∀ k : Nat, k ≤ 1 → (sub64Entry #[.int .u64 x, .int .u64 y, .int .u64 (k : Int)]).run P w =
      .ok (Extern.MathBitsCarry.pair ((x.toNat + Extern.MathBitsCarry.m64 - y.toNat - k) % Extern.MathBitsCarry.m64) (if x.toNat < y.toNat + k then 1 else 0)) w := by
    intro k hk
    have : k = 0 ∨ k = 1 := by omega
    rcases this with rfl | rfl <;> rfl
  obtain ⟨k, rfl⟩ := Int.eq_ofNat_of_zero_le hc0
  rw [key k (by omega)]
  obtain ⟨X, rfl⟩ := Int.eq_ofNat_of_zero_le hx
  obtain ⟨Y, rfl⟩ := Int.eq_ofNat_of_zero_le hy
  simp only [Extern.MathBitsCarry.pair, Extern.MathBitsCarry.m64, Int.toNat_natCast]
  have e1 : Int.ofNat ((X + 2 ^ 64 - Y - k) % 2 ^ 64) = ((X : Int) - Y - k) % 18446744073709551616 := by
    show ((((X + 2 ^ 64 - Y - k) % 2 ^ 64 : Nat)) : Int) = _
    omega
  have e2 : Int.ofNat (if X < Y + k then 1 else 0) = if (X : Int) < Y + k then 1 else 0 := by
    show (((if X < Y + k then 1 else 0 : Nat)) : Int) = _
    split <;> split <;> omega
  rw [e1, e2]
def gSub : List Value → Option (Prop × List Value)
  | [.int .u64 x, .int .u64 y, .int .u64 c] => some ((0 ≤ x ∧ 0 ≤ y ∧ y < 18446744073709551616 ∧ 0 ≤ c ∧ c ≤ 1), [.int .u64 ((x - y - c) % 18446744073709551616), .int .u64 (if x < y + c then 1 else 0)])
  | _ => none
theorem gSub_ok (vs : List Value) (q : Prop) (rs : List Value) (h : gSub vs = some (q, rs)) (hq : q) : (∀ v ∈ rs, v.oneCell' = true) ∧ ∀ w, (sub64Entry vs.toArray).run P w = .ok (resV rs) w := by
  unfold gSub at h
  split at h
  · cases h
    obtain ⟨h1, h2, h3, h4, h5⟩ := hq
    exact ⟨by simp [Value.oneCell'], fun w => run_sub64 _ _ _ h1 h2 h3 h4 h5 w⟩
  · cases h
theorem extFn_of {f : FuncId} {fn : Func} {e : Array Value → Sem Value} (hf : P.funcs[f]? = some fn) (hname : (fn.name == "runtime.NumGoroutine") = false)
    (hb : fn.body.isNone = true) (hn : Extern.findNext fn = none) (he : Extern.find fn = some e) : ExtFn P f e := ⟨fun args w => run_callFunc_extern hf hname hb hn he args w⟩

end Go.Proofs.YtfebndgmmekmgaaGreatDoor.AI

/- Numbers and their digits to the base 2^32, least first. No program is in sight. -/
namespace Go.Proofs.YtfebndgmmekmgaaGreatDoor.M
open Go

def val : List Int → Nat
  | [] => 0
  | d :: r => d.toNat + 4294967296 * val r
def dg (n : Nat) : List Int := if h : n = 0 then [] else ((n % 4294967296 : Nat) : Int) :: dg (n / 4294967296)
termination_by n
decreasing_by omega
def Dig (a : List Int) : Prop := ∀ d ∈ a, 0 ≤ d ∧ d < 4294967296
/-- Digits with none on top that is nought. -/
def Nrm (a : List Int) : Prop := a = dg (val a)

theorem dg_zero : dg 0 = [] := by rw [dg]; rfl
theorem dg_pos {n : Nat} (h : n ≠ 0) : dg n = ((n % 4294967296 : Nat) : Int) :: dg (n / 4294967296) := by rw [dg, dif_neg h]

theorem val_dg (n : Nat) : val (dg n) = n := by
  induction n using Nat.strongRecOn with
  | _ n ih =>
    by_cases h : n = 0
    · subst h; rw [dg_zero]; rfl
    · rw [dg_pos h, val, ih _ (by omega)]
      have := Nat.div_add_mod n 4294967296
      omega

theorem dig_nil : Dig [] := fun _ h => by cases h
theorem dig_cons {d : Int} {r : List Int} : Dig (d :: r) ↔ (0 ≤ d ∧ d < 4294967296) ∧ Dig r := by
  unfold Dig; simp
theorem dig_append {a b : List Int} : Dig (a ++ b) ↔ Dig a ∧ Dig b := by
  unfold Dig; simp only [List.mem_append]
  exact ⟨fun h => ⟨fun d hd => h d (.inl hd), fun d hd => h d (.inr hd)⟩, fun h d hd => hd.elim (h.1 d) (h.2 d)⟩
theorem Dig.take {a : List Int} (h : Dig a) (n : Nat) : Dig (a.take n) := fun d hd => h d (List.mem_of_mem_take hd)
theorem Dig.drop {a : List Int} (h : Dig a) (n : Nat) : Dig (a.drop n) := fun d hd => h d (List.mem_of_mem_drop hd)
theorem dig_replicate (n : Nat) : Dig (List.replicate n 0) := fun d hd => by rw [(List.mem_replicate.1 hd).2]; omega

theorem dig_dg (n : Nat) : Dig (dg n) := by
  induction n using Nat.strongRecOn with
  | _ n ih =>
    by_cases h : n = 0
    · subst h; rw [dg_zero]; exact dig_nil
    · rw [dg_pos h]; exact dig_cons.2 ⟨by omega, ih _ (by omega)⟩

theorem nrm_dg (n : Nat) : Nrm (dg n) := by unfold Nrm; rw [val_dg]
theorem Nrm.dig {a : List Int} (h : Nrm a) : Dig a := by rw [h]; exact dig_dg _

theorem val_append : ∀ (a b : List Int), val (a ++ b) = val a + 4294967296 ^ a.length * val b
  | [], b => by simp [val]
  | d :: a, b => by
    simp only [List.cons_append, val, val_append a b, List.length_cons, Nat.pow_succ]
    rw [Nat.mul_add, ← Nat.mul_assoc, Nat.mul_comm 4294967296 (4294967296 ^ a.length)]
    omega

theorem val_lt : ∀ {a : List Int}, Dig a → val a < 4294967296 ^ a.length
  | [], _ => by simp [val]
  | d :: a, h => by
    obtain ⟨h1, h2⟩ := dig_cons.1 h
    have := val_lt h2
    simp only [val, List.length_cons, Nat.pow_succ]
    have : d.toNat < 4294967296 := by omega
    have : 4294967296 * val a + 4294967296 ≤ 4294967296 ^ a.length * 4294967296 := by
      rw [Nat.mul_comm (4294967296 ^ a.length)]
      have : 4294967296 * (val a + 1) ≤ 4294967296 * 4294967296 ^ a.length := Nat.mul_le_mul_left _ (by omega)
      omega
    omega

theorem val_replicate : ∀ n, val (List.replicate n 0) = 0
  | 0 => rfl
  | n + 1 => by simp [List.replicate_succ, val, val_replicate n]

/-- Digits are those of their number, but for noughts on top. -/
theorem dg_val : ∀ {a : List Int}, Dig a → ∃ k, a = dg (val a) ++ List.replicate k 0
  | [], _ => ⟨0, by simp [val, dg_zero]⟩
  | d :: a, h => by
    obtain ⟨h1, h2⟩ := dig_cons.1 h
    obtain ⟨k, hk⟩ := dg_val h2
    by_cases hz : d.toNat + 4294967296 * val a = 0
    · have hd : d = 0 := by omega
      have hv : val a = 0 := by omega
      rw [hv, dg_zero] at hk
      refine ⟨k + 1, ?_⟩
      simp only [val]
      rw [hz, dg_zero, hd, hk]
      simp [List.replicate_succ]
    · refine ⟨k, ?_⟩
      simp only [val]
      rw [dg_pos hz]
      have e1 : (d.toNat + 4294967296 * val a) % 4294967296 = d.toNat := by omega
      have e2 : (d.toNat + 4294967296 * val a) / 4294967296 = val a := by omega
      rw [e1, e2, List.cons_append, ← hk]
      congr 1
      omega

theorem nrm_nil : Nrm [] := by unfold Nrm; simp [val, dg_zero]

/-- What has no nought on top is the digits of its number. -/
theorem nrm_of {a : List Int} (h : Dig a) (ht : ∀ d, a.getLast? = some d → d ≠ 0) : Nrm a := by
  obtain ⟨k, hk⟩ := dg_val h
  cases k with
  | zero => unfold Nrm; simpa using hk
  | succ k =>
    exfalso
    refine ht 0 ?_ rfl
    rw [hk, List.replicate_succ', ← List.append_assoc]
    simp

theorem Nrm.top {a : List Int} (h : Nrm a) {d : Int} (hd : a.getLast? = some d) : d ≠ 0 := by
  have key : ∀ n, ∀ d, (dg n).getLast? = some d → d ≠ 0 := by
    intro n
    induction n using Nat.strongRecOn with
    | _ n ih =>
      intro d hd
      by_cases hn : n = 0
      · subst hn; rw [dg_zero] at hd; cases hd
      · rw [dg_pos hn] at hd
        by_cases hq : n / 4294967296 = 0
        · rw [hq, dg_zero] at hd
          simp at hd
          omega
        · refine ih (n / 4294967296) (by omega) d ?_
          rw [dg_pos hq] at hd ⊢
          rwa [List.getLast?_cons_cons] at hd
  rw [h] at hd
  exact key _ d hd

theorem nrm_tail {d : Int} {a : List Int} (h : Nrm (d :: a)) : Nrm a := by
  have hd := h.dig
  refine nrm_of (dig_cons.1 hd).2 fun e he => h.top ?_
  cases a with
  | nil => cases he
  | cons x r => rwa [List.getLast?_cons_cons]

theorem len_dg_le {n k : Nat} (h : n < 4294967296 ^ k) : (dg n).length ≤ k := by
  induction k generalizing n with
  | zero => have : n = 0 := by simpa using h
            subst this; rw [dg_zero]; exact Nat.le_refl _
  | succ k ih =>
    by_cases hn : n = 0
    · subst hn; rw [dg_zero]; simp
    · rw [dg_pos hn, List.length_cons]
      have := ih (n := n / 4294967296) (by rw [Nat.pow_succ] at h; exact Nat.div_lt_of_lt_mul (by rw [Nat.mul_comm]; exact h))
      omega

theorem lt_of_len {n : Nat} : n < 4294967296 ^ (dg n).length := by
  have := val_lt (dig_dg n)
  rwa [val_dg] at this

theorem len_dg_mono {n m : Nat} (h : n ≤ m) : (dg n).length ≤ (dg m).length := len_dg_le (Nat.lt_of_le_of_lt h lt_of_len)

theorem len_val {a : List Int} (h : Dig a) : (dg (val a)).length ≤ a.length := len_dg_le (val_lt h)

theorem ge_of_len {n k : Nat} (h : k < (dg n).length) : 4294967296 ^ k ≤ n := by
  rcases Nat.lt_or_ge n (4294967296 ^ k) with h1 | h1
  · have := len_dg_le h1; omega
  · exact h1

theorem val_take_succ {a : List Int} {n : Nat} (h : n < a.length) : val (a.take (n + 1)) = val (a.take n) + 4294967296 ^ n * (a.getD n 0).toNat := by
  rw [List.take_succ_eq_append_getElem h, val_append, List.length_take, Nat.min_eq_left (by omega)]
  simp [val, List.getD_eq_getElem?_getD, h]

theorem val_take_drop (a : List Int) {n : Nat} (h : n ≤ a.length) : val a = val (a.take n) + 4294967296 ^ n * val (a.drop n) := by
  have e := val_append (a.take n) (a.drop n)
  rw [List.take_append_drop, List.length_take, Nat.min_eq_left h] at e
  exact e

theorem getD_mem {a : List Int} {n : Nat} (h : n < a.length) : a.getD n 0 ∈ a := by
  rw [List.getD_eq_getElem?_getD, List.getElem?_eq_getElem h]
  simp
theorem Dig.get {a : List Int} (h : Dig a) (n : Nat) : 0 ≤ a.getD n 0 ∧ a.getD n 0 < 4294967296 := by
  rcases Nat.lt_or_ge n a.length with hn | hn
  · exact h _ (getD_mem hn)
  · rw [List.getD_eq_getElem?_getD, List.getElem?_eq_none hn]; simp

theorem getLast_take {a : List Int} {n : Nat} (h : n < a.length) : (a.take (n + 1)).getLast? = some (a.getD n 0) := by
  rw [List.take_succ_eq_append_getElem h, List.getLast?_append]
  simp [List.getD_eq_getElem?_getD, h]
theorem copy_all {xs : List Int} {n : Nat} (h : n ≤ xs.length) : List.take n (List.drop 0 (List.take n xs)) ++ List.drop (min (List.drop 0 (List.take n xs)).length n) (List.replicate n 0) = xs.take n := by
  have e : (List.drop 0 (List.take n xs)).length = n := by simp; omega
  rw [e, Nat.min_self, List.drop_zero, List.take_take, Nat.min_self]
  simp

/- The machine's whole numbers. -/

theorem and_mask32 {w : Int} (h : 0 ≤ w) (h' : w < 18446744073709551616) : AI.bitsI .and .u64 w 4294967295 = w % 4294967296 := by
  obtain ⟨n, rfl⟩ := Int.eq_ofNat_of_zero_le h
  rw [AI.bitsI_eq]
  unfold AI.bitsI0
  simp only
  have e : (BitVec.ofInt IntKind.u64.bits (n : Int) &&& BitVec.ofInt IntKind.u64.bits 4294967295).toNat = n % 4294967296 := by
    show (BitVec.ofInt 64 (n : Int) &&& BitVec.ofInt 64 4294967295).toNat = _
    rw [BitVec.toNat_and]
    have e1 : (BitVec.ofInt 64 (n : Int)).toNat = n := by simp; omega
    have e2 : (BitVec.ofInt 64 4294967295).toNat = 2 ^ 32 - 1 := by decide
    rw [e1, e2, Nat.and_two_pow_sub_one_eq_mod]
  rw [e, wrap_u64 (by omega) (by omega)]
  omega

/- Ways. -/
section
variable {R : Type} {x y : Option R}
theorem bD_pos {p : Prop} [Decidable p] (h : p) : AI.bcase (decide p) x y = x := by simp only [AI.bcase, decide_eq_true h, cond_true]
theorem bD_neg {p : Prop} [Decidable p] (h : ¬ p) : AI.bcase (decide p) x y = y := by simp only [AI.bcase, decide_eq_false h, cond_false]
theorem bE_pos {a b : Int} (h : a = b) : AI.bcase (a == b) x y = x := by subst h; simp [AI.bcase]
theorem bE_neg {a b : Int} (h : a ≠ b) : AI.bcase (a == b) x y = y := by rw [beq_eq_false_iff_ne.2 h]; rfl
theorem bN_pos {a b : Int} (h : a ≠ b) : AI.bcase (a != b) x y = x := by rw [bne_iff_ne.2 h]; rfl
theorem bN_neg {a b : Int} (h : a = b) : AI.bcase (a != b) x y = y := by subst h; simp [AI.bcase]
theorem bT : AI.bcase true x y = x := rfl
theorem bF : AI.bcase false x y = y := rfl
theorem bB_pos {b : Bool} (h : b = true) : AI.bcase b x y = x := by rw [h]; rfl
theorem bB_neg {b : Bool} (h : b = false) : AI.bcase b x y = y := by rw [h]; rfl
theorem gP {g : Prop} (h : g) : AI.gif g x = x := AI.gif_pos h
end

theorem wrap_i64n {n : Int} (h : -9223372036854775808 ≤ n ∧ n < 9223372036854775808) : IntKind.i64.wrap n = n := wrap_i64 h.1 h.2
theorem wrap_u64n {n : Int} (h : 0 ≤ n ∧ n < 18446744073709551616) : IntKind.u64.wrap n = n := wrap_u64 h.1 h.2
theorem wrap_u32n {n : Int} (h : 0 ≤ n ∧ n < 4294967296) : IntKind.u32.wrap n = n := by rw [wrap_u32]; omega

/-- How two numbers stand. -/
def cmpN (a b : Nat) : Int := if a < b then -1 else if b < a then 1 else 0
theorem getD_none {a : List Int} {n : Nat} (h : a.length ≤ n) : a.getD n 0 = 0 := by
  rw [List.getD_eq_getElem?_getD, List.getElem?_eq_none h]; rfl
theorem val_take_ge {a : List Int} {n : Nat} (h : a.length ≤ n) : val (a.take n) = val a := by rw [List.take_of_length_le h]
/-- One digit more of what is taken, whether there is one or not. -/
theorem val_take_one {a : List Int} (n : Nat) : val (a.take (n + 1)) = val (a.take n) + 4294967296 ^ n * (a.getD n 0).toNat := by
  rcases Nat.lt_or_ge n a.length with h | h
  · exact val_take_succ h
  · rw [val_take_ge (by omega), val_take_ge h, getD_none h]; simp
theorem val_take_lt {a : List Int} (h : Dig a) (n : Nat) : val (a.take n) < 4294967296 ^ n := by
  have := val_lt (h.take n)
  exact Nat.lt_of_lt_of_le this (Nat.pow_le_pow_right (by omega) (by rw [List.length_take]; omega))
theorem val_push {a : List Int} {d : Int} : val (a ++ [d]) = val a + 4294967296 ^ a.length * d.toNat := by
  rw [val_append]; simp [val]
theorem dig_push {a : List Int} {d : Int} (h : Dig a) (hd : 0 ≤ d ∧ d < 4294967296) : Dig (a ++ [d]) := by
  rw [dig_append, dig_cons]; exact ⟨h, hd, dig_nil⟩
theorem nrm_dg' {a : List Int} (h : Nrm a) : dg (val a) = a := h.symm
theorem nrm_len_lt {a b : List Int} (ha : Dig a) (hb : Nrm b) (h : a.length < b.length) : val a < val b := by
  have h1 := val_lt ha
  have h2 : 4294967296 ^ a.length ≤ val b := ge_of_len (by rw [← hb]; exact h)
  omega
theorem nrm_eq {a b : List Int} (ha : Nrm a) (hb : Nrm b) (h : val a = val b) : a = b := by rw [ha, hb, h]
theorem len_zero {a : List Int} (ha : Nrm a) : a.length = 0 ↔ val a = 0 := by
  constructor
  · intro h; have : a = [] := List.length_eq_zero_iff.1 h; subst this; rfl
  · intro h; rw [ha, h, dg_zero]; rfl
theorem dg_len_zero {n : Nat} : (dg n).length = 0 ↔ n = 0 := by rw [len_zero (nrm_dg n), val_dg]
theorem dig_set {a : List Int} (h : Dig a) {n : Nat} {d : Int} (hd : 0 ≤ d ∧ d < 4294967296) : Dig (a.set n d) := by
  intro x hx
  rcases List.mem_or_eq_of_mem_set hx with h1 | h1
  · exact h x h1
  · subst h1; exact hd
theorem val_drop_set {a : List Int} {n : Nat} (h : n < a.length) (d : Int) : val ((a.set n d).drop n) = d.toNat + 4294967296 * val (a.drop (n + 1)) := by
  have e : (a.set n d).drop n = d :: a.drop (n + 1) := by
    rw [List.drop_eq_getElem_cons (by simpa using h)]
    simp [List.drop_set]
  rw [e]; rfl
theorem val_drop_one {a : List Int} (n : Nat) : val (a.drop n) = (a.getD n 0).toNat + 4294967296 * val (a.drop (n + 1)) := by
  rcases Nat.lt_or_ge n a.length with h | h
  · rw [List.drop_eq_getElem_cons h]
    simp [val, List.getD_eq_getElem?_getD, h]
  · rw [List.drop_eq_nil_of_le h, List.drop_eq_nil_of_le (by omega), getD_none h]; rfl
theorem div_step {l B n d r w : Nat} (hw : 0 < w) : ((l * B + d) * n + r) / w = (((l * B + d) % w) * n + r) / w + n * ((l * B + d) / w) := by
  have h := Nat.div_add_mod (l * B + d) w
  have e : (l * B + d) * n + r = ((l * B + d) % w * n + r) + w * (n * ((l * B + d) / w)) := by
    generalize l * B + d = t at *
    generalize t / w = q at *
    generalize t % w = m at *
    subst h
    rw [Nat.add_mul]
    have : w * q * n = w * (n * q) := by rw [Nat.mul_assoc, Nat.mul_comm q n]
    omega
  rw [e, Nat.add_mul_div_left _ _ hw]
theorem mod_step {l B n d r w : Nat} : ((l * B + d) * n + r) % w = (((l * B + d) % w) * n + r) % w := by
  conv => rhs; rw [Nat.add_mod, Nat.mul_mod, Nat.mod_mod, ← Nat.mul_mod, ← Nat.add_mod]
theorem cmpN_add (u v k : Nat) : cmpN (u + k) (v + k) = cmpN u v := by
  unfold cmpN
  simp only [Nat.add_lt_add_iff_right]
theorem toNat_ediv' {a b : Int} (ha : 0 ≤ a) (hb : 0 ≤ b) : (a / b).toNat = a.toNat / b.toNat := by
  obtain ⟨x, rfl⟩ := Int.eq_ofNat_of_zero_le ha
  obtain ⟨y, rfl⟩ := Int.eq_ofNat_of_zero_le hb
  rw [← Int.natCast_ediv, Int.toNat_natCast, Int.toNat_natCast, Int.toNat_natCast]
theorem toNat_emod' {a b : Int} (ha : 0 ≤ a) (hb : 0 ≤ b) : (a % b).toNat = a.toNat % b.toNat := by
  obtain ⟨x, rfl⟩ := Int.eq_ofNat_of_zero_le ha
  obtain ⟨y, rfl⟩ := Int.eq_ofNat_of_zero_le hb
  rw [← Int.natCast_emod, Int.toNat_natCast, Int.toNat_natCast, Int.toNat_natCast]
theorem toNat_lt {d : Int} {k : Nat} (h : 0 ≤ d ∧ d < (k : Int)) : d.toNat < k := by omega

end Go.Proofs.YtfebndgmmekmgaaGreatDoor.M

/- Bit lengths, shifts. No program is in sight. -/
namespace Go.Proofs.YtfebndgmmekmgaaGreatDoor.M
open Go

/-- The least k with n < 2^k. -/
def bl (n : Nat) : Nat := if n = 0 then 0 else n.log2 + 1
theorem bl_zero : bl 0 = 0 := rfl
theorem lt_bl (n : Nat) : n < 2 ^ bl n := by
  unfold bl
  split
  · omega
  · exact Nat.lt_log2_self
theorem bl_ge {n : Nat} (h : n ≠ 0) : 2 ^ (bl n - 1) ≤ n := by
  unfold bl
  rw [if_neg h]
  exact Nat.log2_self_le h
theorem bl_le {n k : Nat} : bl n ≤ k ↔ n < 2 ^ k := by
  constructor
  · intro h; exact Nat.lt_of_lt_of_le (lt_bl n) (Nat.pow_le_pow_right (by omega) h)
  · intro h
    by_cases hn : n = 0
    · subst hn; exact Nat.zero_le _
    · rcases Nat.lt_or_ge k (bl n) with h1 | h1
      · exfalso
        have h2 := bl_ge hn
        have h3 : 2 ^ k ≤ 2 ^ (bl n - 1) := Nat.pow_le_pow_right (by omega) (by omega)
        omega
      · exact h1
theorem lt_bl_iff {n k : Nat} : k < bl n ↔ 2 ^ k ≤ n := by
  have := @bl_le n k
  omega
theorem bl_pos {n : Nat} (h : n ≠ 0) : 0 < bl n := by rw [lt_bl_iff]; simp; omega
theorem bl_eq {n k : Nat} (h : 2 ^ k ≤ n) (h' : n < 2 ^ (k + 1)) : bl n = k + 1 := by
  have := bl_le.2 h'
  have := lt_bl_iff.2 h
  omega
theorem bl_add {r k t : Nat} (hr : r < 2 ^ k) (ht : t ≠ 0) : bl (r + 2 ^ k * t) = k + bl t := by
  have hp := bl_pos ht
  have e : k + bl t = (k + (bl t - 1)) + 1 := by omega
  rw [e]
  apply bl_eq
  · rw [Nat.pow_add]
    have := Nat.mul_le_mul_left (2 ^ k) (bl_ge ht)
    omega
  · have h1 := lt_bl t
    have h2 : 2 ^ k * (t + 1) ≤ 2 ^ k * 2 ^ bl t := Nat.mul_le_mul_left _ h1
    rw [← Nat.pow_add] at h2
    rw [Nat.mul_add] at h2
    have e2 : k + (bl t - 1) + 1 = k + bl t := by omega
    rw [e2]
    omega
theorem bl_mul {k t : Nat} (ht : t ≠ 0) : bl (2 ^ k * t) = k + bl t := by
  have := bl_add (r := 0) (k := k) (t := t) (Nat.pow_pos (by omega)) ht
  rwa [Nat.zero_add] at this
theorem bl_half {n : Nat} (h : n ≠ 0) : bl n = bl (n / 2) + 1 := by
  by_cases h2 : n / 2 = 0
  · rw [h2]
    have : n = 1 := by omega
    subst this; rfl
  · have := bl_add (r := n % 2) (k := 1) (t := n / 2) (by simp; omega) h2
    have e : n % 2 + 2 ^ 1 * (n / 2) = n := by omega
    rw [e] at this
    omega
theorem bl_mono {a b : Nat} (h : a ≤ b) : bl a ≤ bl b := bl_le.2 (Nat.lt_of_le_of_lt h (lt_bl b))

theorem pow32 (k : Nat) : 4294967296 ^ k = 2 ^ (32 * k) := by rw [Nat.pow_mul]
theorem len_dg_bits {n k : Nat} (h : n < 2 ^ k) : (dg n).length ≤ k / 32 + 1 := by
  apply len_dg_le
  rw [pow32]
  exact Nat.lt_of_lt_of_le h (Nat.pow_le_pow_right (by omega) (by omega))
theorem len_dg_bl (n : Nat) : (dg n).length ≤ bl n / 32 + 1 := len_dg_bits (lt_bl n)

theorem shl_wrap {k : Int} (h : 0 ≤ k) (h' : k < 32) : IntKind.u32.wrap (1 * ((2 ^ (min k.toNat 32) : Nat) : Int)) = ((2 ^ k.toNat : Nat) : Int) := by
  have e : min k.toNat 32 = k.toNat := by omega
  rw [e, Int.one_mul, wrap_u32]
  have : 2 ^ k.toNat < 2 ^ 32 := Nat.pow_lt_pow_right (by omega) (by omega)
  generalize 2 ^ k.toNat = p at *
  omega
theorem tdiv32 {n : Int} (h : 0 ≤ n) : n.tdiv 32 = n / 32 := Int.tdiv_eq_ediv_of_nonneg h
theorem tmod32 {n : Int} (h : 0 ≤ n) : n.tmod 32 = n % 32 := Int.tmod_eq_emod_of_nonneg h
theorem pow_split (n : Nat) : 2 ^ n = 4294967296 ^ (n / 32) * 2 ^ (n % 32) := by
  rw [pow32, ← Nat.pow_add]; congr 1; omega
theorem div_split (v n : Nat) : v / 4294967296 ^ (n / 32) / 2 ^ (n % 32) = v / 2 ^ n := by
  rw [Nat.div_div_eq_div_mul, ← pow_split]
theorem val_drop_div {a : List Int} (h : Dig a) (n : Nat) : val (a.drop n) = val a / 4294967296 ^ n := by
  rcases Nat.le_or_ge n a.length with hn | hn
  · rw [val_take_drop a hn, Nat.add_mul_div_left _ _ (Nat.pow_pos (by omega)), Nat.div_eq_of_lt (val_take_lt h n), Nat.zero_add]
  · rw [List.drop_eq_nil_of_le hn, Nat.div_eq_of_lt]
    · rfl
    · exact Nat.lt_of_lt_of_le (val_lt h) (Nat.pow_le_pow_right (by omega) hn)
end Go.Proofs.YtfebndgmmekmgaaGreatDoor.M

/- Numbers and their digits to the base 2^64, least first. No program is in sight. -/
namespace Go.Proofs.YtfebndgmmekmgaaGreatDoor.M6
open Go

def val : List Int → Nat
  | [] => 0
  | d :: r => d.toNat + 18446744073709551616 * val r
def dg (n : Nat) : List Int := if h : n = 0 then [] else ((n % 18446744073709551616 : Nat) : Int) :: dg (n / 18446744073709551616)
termination_by n
decreasing_by omega
def Dig (a : List Int) : Prop := ∀ d ∈ a, 0 ≤ d ∧ d < 18446744073709551616
/-- Digits with none on top that is nought. -/
def Nrm (a : List Int) : Prop := a = dg (val a)

theorem dg_zero : dg 0 = [] := by rw [dg]; rfl
theorem dg_pos {n : Nat} (h : n ≠ 0) : dg n = ((n % 18446744073709551616 : Nat) : Int) :: dg (n / 18446744073709551616) := by rw [dg, dif_neg h]

theorem val_dg (n : Nat) : val (dg n) = n := by
  induction n using Nat.strongRecOn with
  | _ n ih =>
    by_cases h : n = 0
    · subst h; rw [dg_zero]; rfl
    · rw [dg_pos h, val, ih _ (by omega)]
      have := Nat.div_add_mod n 18446744073709551616
      omega

theorem dig_nil : Dig [] := fun _ h => by cases h
theorem dig_cons {d : Int} {r : List Int} : Dig (d :: r) ↔ (0 ≤ d ∧ d < 18446744073709551616) ∧ Dig r := by
  unfold Dig; simp
theorem dig_append {a b : List Int} : Dig (a ++ b) ↔ Dig a ∧ Dig b := by
  unfold Dig; simp only [List.mem_append]
  exact ⟨fun h => ⟨fun d hd => h d (.inl hd), fun d hd => h d (.inr hd)⟩, fun h d hd => hd.elim (h.1 d) (h.2 d)⟩
theorem Dig.take {a : List Int} (h : Dig a) (n : Nat) : Dig (a.take n) := fun d hd => h d (List.mem_of_mem_take hd)
theorem Dig.drop {a : List Int} (h : Dig a) (n : Nat) : Dig (a.drop n) := fun d hd => h d (List.mem_of_mem_drop hd)
theorem dig_replicate (n : Nat) : Dig (List.replicate n 0) := fun d hd => by rw [(List.mem_replicate.1 hd).2]; omega

theorem dig_dg (n : Nat) : Dig (dg n) := by
  induction n using Nat.strongRecOn with
  | _ n ih =>
    by_cases h : n = 0
    · subst h; rw [dg_zero]; exact dig_nil
    · rw [dg_pos h]; exact dig_cons.2 ⟨by omega, ih _ (by omega)⟩

theorem nrm_dg (n : Nat) : Nrm (dg n) := by unfold Nrm; rw [val_dg]
theorem Nrm.dig {a : List Int} (h : Nrm a) : Dig a := by rw [h]; exact dig_dg _

theorem val_append : ∀ (a b : List Int), val (a ++ b) = val a + 18446744073709551616 ^ a.length * val b
  | [], b => by simp [val]
  | d :: a, b => by
    simp only [List.cons_append, val, val_append a b, List.length_cons, Nat.pow_succ]
    rw [Nat.mul_add, ← Nat.mul_assoc, Nat.mul_comm 18446744073709551616 (18446744073709551616 ^ a.length)]
    omega

theorem val_lt : ∀ {a : List Int}, Dig a → val a < 18446744073709551616 ^ a.length
  | [], _ => by simp [val]
  | d :: a, h => by
    obtain ⟨h1, h2⟩ := dig_cons.1 h
    have := val_lt h2
    simp only [val, List.length_cons, Nat.pow_succ]
    have : d.toNat < 18446744073709551616 := by omega
    have : 18446744073709551616 * val a + 18446744073709551616 ≤ 18446744073709551616 ^ a.length * 18446744073709551616 := by
      rw [Nat.mul_comm (18446744073709551616 ^ a.length)]
      have : 18446744073709551616 * (val a + 1) ≤ 18446744073709551616 * 18446744073709551616 ^ a.length := Nat.mul_le_mul_left _ (by omega)
      omega
    omega

theorem val_replicate : ∀ n, val (List.replicate n 0) = 0
  | 0 => rfl
  | n + 1 => by simp [List.replicate_succ, val, val_replicate n]

/-- Digits are those of their number, but for noughts on top. -/
theorem dg_val : ∀ {a : List Int}, Dig a → ∃ k, a = dg (val a) ++ List.replicate k 0
  | [], _ => ⟨0, by simp [val, dg_zero]⟩
  | d :: a, h => by
    obtain ⟨h1, h2⟩ := dig_cons.1 h
    obtain ⟨k, hk⟩ := dg_val h2
    by_cases hz : d.toNat + 18446744073709551616 * val a = 0
    · have hd : d = 0 := by omega
      have hv : val a = 0 := by omega
      rw [hv, dg_zero] at hk
      refine ⟨k + 1, ?_⟩
      simp only [val]
      rw [hz, dg_zero, hd, hk]
      simp [List.replicate_succ]
    · refine ⟨k, ?_⟩
      simp only [val]
      rw [dg_pos hz]
      have e1 : (d.toNat + 18446744073709551616 * val a) % 18446744073709551616 = d.toNat := by omega
      have e2 : (d.toNat + 18446744073709551616 * val a) / 18446744073709551616 = val a := by omega
      rw [e1, e2, List.cons_append, ← hk]
      congr 1
      omega

theorem nrm_nil : Nrm [] := by unfold Nrm; simp [val, dg_zero]

/-- What has no nought on top is the digits of its number. -/
theorem nrm_of {a : List Int} (h : Dig a) (ht : ∀ d, a.getLast? = some d → d ≠ 0) : Nrm a := by
  obtain ⟨k, hk⟩ := dg_val h
  cases k with
  | zero => unfold Nrm; simpa using hk
  | succ k =>
    exfalso
    refine ht 0 ?_ rfl
    rw [hk, List.replicate_succ', ← List.append_assoc]
    simp

theorem Nrm.top {a : List Int} (h : Nrm a) {d : Int} (hd : a.getLast? = some d) : d ≠ 0 := by
  have key : ∀ n, ∀ d, (dg n).getLast? = some d → d ≠ 0 := by
    intro n
    induction n using Nat.strongRecOn with
    | _ n ih =>
      intro d hd
      by_cases hn : n = 0
      · subst hn; rw [dg_zero] at hd; cases hd
      · rw [dg_pos hn] at hd
        by_cases hq : n / 18446744073709551616 = 0
        · rw [hq, dg_zero] at hd
          simp at hd
          omega
        · refine ih (n / 18446744073709551616) (by omega) d ?_
          rw [dg_pos hq] at hd ⊢
          rwa [List.getLast?_cons_cons] at hd
  rw [h] at hd
  exact key _ d hd

theorem nrm_tail {d : Int} {a : List Int} (h : Nrm (d :: a)) : Nrm a := by
  have hd := h.dig
  refine nrm_of (dig_cons.1 hd).2 fun e he => h.top ?_
  cases a with
  | nil => cases he
  | cons x r => rwa [List.getLast?_cons_cons]

theorem len_dg_le {n k : Nat} (h : n < 18446744073709551616 ^ k) : (dg n).length ≤ k := by
  induction k generalizing n with
  | zero => have : n = 0 := by simpa using h
            subst this; rw [dg_zero]; exact Nat.le_refl _
  | succ k ih =>
    by_cases hn : n = 0
    · subst hn; rw [dg_zero]; simp
    · rw [dg_pos hn, List.length_cons]
      have := ih (n := n / 18446744073709551616) (by rw [Nat.pow_succ] at h; exact Nat.div_lt_of_lt_mul (by rw [Nat.mul_comm]; exact h))
      omega

theorem lt_of_len {n : Nat} : n < 18446744073709551616 ^ (dg n).length := by
  have := val_lt (dig_dg n)
  rwa [val_dg] at this

theorem len_dg_mono {n m : Nat} (h : n ≤ m) : (dg n).length ≤ (dg m).length := len_dg_le (Nat.lt_of_le_of_lt h lt_of_len)

theorem len_val {a : List Int} (h : Dig a) : (dg (val a)).length ≤ a.length := len_dg_le (val_lt h)

theorem ge_of_len {n k : Nat} (h : k < (dg n).length) : 18446744073709551616 ^ k ≤ n := by
  rcases Nat.lt_or_ge n (18446744073709551616 ^ k) with h1 | h1
  · have := len_dg_le h1; omega
  · exact h1

theorem val_take_succ {a : List Int} {n : Nat} (h : n < a.length) : val (a.take (n + 1)) = val (a.take n) + 18446744073709551616 ^ n * (a.getD n 0).toNat := by
  rw [List.take_succ_eq_append_getElem h, val_append, List.length_take, Nat.min_eq_left (by omega)]
  simp [val, List.getD_eq_getElem?_getD, h]

theorem val_take_drop (a : List Int) {n : Nat} (h : n ≤ a.length) : val a = val (a.take n) + 18446744073709551616 ^ n * val (a.drop n) := by
  have e := val_append (a.take n) (a.drop n)
  rw [List.take_append_drop, List.length_take, Nat.min_eq_left h] at e
  exact e

theorem getD_mem {a : List Int} {n : Nat} (h : n < a.length) : a.getD n 0 ∈ a := by
  rw [List.getD_eq_getElem?_getD, List.getElem?_eq_getElem h]
  simp
theorem Dig.get {a : List Int} (h : Dig a) (n : Nat) : 0 ≤ a.getD n 0 ∧ a.getD n 0 < 18446744073709551616 := by
  rcases Nat.lt_or_ge n a.length with hn | hn
  · exact h _ (getD_mem hn)
  · rw [List.getD_eq_getElem?_getD, List.getElem?_eq_none hn]; simp

theorem getLast_take {a : List Int} {n : Nat} (h : n < a.length) : (a.take (n + 1)).getLast? = some (a.getD n 0) := by
  rw [List.take_succ_eq_append_getElem h, List.getLast?_append]
  simp [List.getD_eq_getElem?_getD, h]
theorem copy_all {xs : List Int} {n : Nat} (h : n ≤ xs.length) : List.take n (List.drop 0 (List.take n xs)) ++ List.drop (min (List.drop 0 (List.take n xs)).length n) (List.replicate n 0) = xs.take n := by
  have e : (List.drop 0 (List.take n xs)).length = n := by simp; omega
  rw [e, Nat.min_self, List.drop_zero, List.take_take, Nat.min_self]
  simp

theorem getD_none {a : List Int} {n : Nat} (h : a.length ≤ n) : a.getD n 0 = 0 := by
  rw [List.getD_eq_getElem?_getD, List.getElem?_eq_none h]; rfl
theorem val_take_ge {a : List Int} {n : Nat} (h : a.length ≤ n) : val (a.take n) = val a := by rw [List.take_of_length_le h]
/-- One digit more of what is taken, whether there is one or not. -/
theorem val_take_one {a : List Int} (n : Nat) : val (a.take (n + 1)) = val (a.take n) + 18446744073709551616 ^ n * (a.getD n 0).toNat := by
  rcases Nat.lt_or_ge n a.length with h | h
  · exact val_take_succ h
  · rw [val_take_ge (by omega), val_take_ge h, getD_none h]; simp
theorem val_take_lt {a : List Int} (h : Dig a) (n : Nat) : val (a.take n) < 18446744073709551616 ^ n := by
  have := val_lt (h.take n)
  exact Nat.lt_of_lt_of_le this (Nat.pow_le_pow_right (by omega) (by rw [List.length_take]; omega))
theorem val_push {a : List Int} {d : Int} : val (a ++ [d]) = val a + 18446744073709551616 ^ a.length * d.toNat := by
  rw [val_append]; simp [val]
theorem dig_push {a : List Int} {d : Int} (h : Dig a) (hd : 0 ≤ d ∧ d < 18446744073709551616) : Dig (a ++ [d]) := by
  rw [dig_append, dig_cons]; exact ⟨h, hd, dig_nil⟩
theorem nrm_dg' {a : List Int} (h : Nrm a) : dg (val a) = a := h.symm
theorem nrm_len_lt {a b : List Int} (ha : Dig a) (hb : Nrm b) (h : a.length < b.length) : val a < val b := by
  have h1 := val_lt ha
  have h2 : 18446744073709551616 ^ a.length ≤ val b := ge_of_len (by rw [← hb]; exact h)
  omega
theorem nrm_eq {a b : List Int} (ha : Nrm a) (hb : Nrm b) (h : val a = val b) : a = b := by rw [ha, hb, h]
theorem len_zero {a : List Int} (ha : Nrm a) : a.length = 0 ↔ val a = 0 := by
  constructor
  · intro h; have : a = [] := List.length_eq_zero_iff.1 h; subst this; rfl
  · intro h; rw [ha, h, dg_zero]; rfl
theorem dg_len_zero {n : Nat} : (dg n).length = 0 ↔ n = 0 := by rw [len_zero (nrm_dg n), val_dg]
theorem dig_set {a : List Int} (h : Dig a) {n : Nat} {d : Int} (hd : 0 ≤ d ∧ d < 18446744073709551616) : Dig (a.set n d) := by
  intro x hx
  rcases List.mem_or_eq_of_mem_set hx with h1 | h1
  · exact h x h1
  · subst h1; exact hd
theorem val_drop_set {a : List Int} {n : Nat} (h : n < a.length) (d : Int) : val ((a.set n d).drop n) = d.toNat + 18446744073709551616 * val (a.drop (n + 1)) := by
  have e : (a.set n d).drop n = d :: a.drop (n + 1) := by
    rw [List.drop_eq_getElem_cons (by simpa using h)]
    simp [List.drop_set]
  rw [e]; rfl
theorem val_drop_one {a : List Int} (n : Nat) : val (a.drop n) = (a.getD n 0).toNat + 18446744073709551616 * val (a.drop (n + 1)) := by
  rcases Nat.lt_or_ge n a.length with h | h
  · rw [List.drop_eq_getElem_cons h]
    simp [val, List.getD_eq_getElem?_getD, h]
  · rw [List.drop_eq_nil_of_le h, List.drop_eq_nil_of_le (by omega), getD_none h]; rfl
theorem div_step {l B n d r w : Nat} (hw : 0 < w) : ((l * B + d) * n + r) / w = (((l * B + d) % w) * n + r) / w + n * ((l * B + d) / w) := by
  have h := Nat.div_add_mod (l * B + d) w
  have e : (l * B + d) * n + r = ((l * B + d) % w * n + r) + w * (n * ((l * B + d) / w)) := by
    generalize l * B + d = t at *
    generalize t / w = q at *
    generalize t % w = m at *
    subst h
    rw [Nat.add_mul]
    have : w * q * n = w * (n * q) := by rw [Nat.mul_assoc, Nat.mul_comm q n]
    omega
  rw [e, Nat.add_mul_div_left _ _ hw]
theorem mod_step {l B n d r w : Nat} : ((l * B + d) * n + r) % w = (((l * B + d) % w) * n + r) % w := by
  conv => rhs; rw [Nat.add_mod, Nat.mul_mod, Nat.mod_mod, ← Nat.mul_mod, ← Nat.add_mod]
theorem toNat_lt {d : Int} {k : Nat} (h : 0 ≤ d ∧ d < (k : Int)) : d.toNat < k := by omega

end Go.Proofs.YtfebndgmmekmgaaGreatDoor.M6

/- Whole numbers with a sign, as they lie. No program is in sight. -/
namespace Go.Proofs.YtfebndgmmekmgaaGreatDoor.M
open Go Go.Proofs.YtfebndgmmekmgaaGreatDoor.AI

def zs (b : Bool) (n : Nat) : Int := bif b then -(n : Int) else n
def zv (x : Bool × List Int) : Int := zs x.1 (val x.2)
/-- In form, and not too long. -/
def Zok (x : Bool × List Int) : Prop := Nrm x.2 ∧ (x.1 = true → val x.2 ≠ 0) ∧ x.2.length ≤ 549755813888
def isNeg (z : Int) : Bool := match z with
  | .negSucc _ => true
  | .ofNat _ => false
/-- A number in form, as its cells. -/
def zD (z : Int) : D := .agg [.sc (.bool (isNeg z)), .ints .u32 (dg z.natAbs)]
theorem isNeg_iff {z : Int} : isNeg z = true ↔ z < 0 := by cases z <;> simp [isNeg] <;> omega
theorem isNeg_false {z : Int} : isNeg z = false ↔ 0 ≤ z := by cases z <;> simp [isNeg] <;> omega
theorem zv_zD (z : Int) : zv (isNeg z, dg z.natAbs) = z := by
  unfold zv zs
  simp only [val_dg]
  cases h : isNeg z with
  | true => have := isNeg_iff.1 h; simp only [cond_true]; omega
  | false => have := isNeg_false.1 h; simp only [cond_false]; omega
theorem zok_zD {z : Int} (h : (dg z.natAbs).length ≤ 549755813888) : Zok (isNeg z, dg z.natAbs) := by
  refine ⟨nrm_dg _, fun hn => ?_, h⟩
  rw [val_dg]
  have := isNeg_iff.1 hn
  omega
/-- Numbers of not too many bits. -/
theorem zok_bits {z : Int} {k : Nat} (h : z.natAbs < 2 ^ k) (hk : k ≤ 17179869184) : Zok (isNeg z, dg z.natAbs) :=
  zok_zD (Nat.le_trans (len_dg_bits h) (by omega))
theorem zs_neg (b : Bool) (n : Nat) : isNeg (zs b n) = (b && decide (n ≠ 0)) := by
  unfold zs
  cases b with
  | false => simp only [cond_false, Bool.false_and]; exact isNeg_false.2 (by omega)
  | true =>
    simp only [cond_true, Bool.true_and]
    by_cases h : n = 0
    · subst h; rfl
    · rw [decide_eq_true h]; exact isNeg_iff.2 (by omega)
theorem zs_abs (b : Bool) (n : Nat) : (zs b n).natAbs = n := by
  unfold zs
  cases b <;> simp
theorem zD_zs (b : Bool) (n : Nat) : zD (zs b n) = .agg [.sc (.bool (b && decide (n ≠ 0))), .ints .u32 (dg n)] := by
  unfold zD
  rw [zs_neg, zs_abs]
/-- Of one in form: its sign, its digits. -/
theorem Zok.cells {x : Bool × List Int} (h : Zok x) : isNeg (zv x) = x.1 ∧ dg (zv x).natAbs = x.2 := by
  obtain ⟨h1, h2, h3⟩ := h
  unfold zv
  rw [zs_neg, zs_abs, ← h1]
  refine ⟨?_, rfl⟩
  cases hx : x.1 with
  | false => rfl
  | true => rw [decide_eq_true (h2 hx)]; rfl
theorem Zok.len {x : Bool × List Int} (h : Zok x) : x.2.length ≤ 549755813888 := h.2.2
theorem zv_abs (x : Bool × List Int) : (zv x).natAbs = val x.2 := zs_abs _ _
theorem zv_neg {x : Bool × List Int} (h : x.1 = true) : zv x = -(val x.2 : Int) := by unfold zv zs; rw [h]; rfl
theorem zv_pos {x : Bool × List Int} (h : x.1 = false) : zv x = (val x.2 : Int) := by unfold zv zs; rw [h]; rfl
theorem len_dg_add (a b : Nat) : (dg (a + b)).length ≤ max (dg a).length (dg b).length + 1 := by
  apply len_dg_le
  have h1 := lt_of_len (n := a)
  have h2 := lt_of_len (n := b)
  have h3 : 4294967296 ^ (dg a).length ≤ 4294967296 ^ max (dg a).length (dg b).length := Nat.pow_le_pow_right (by omega) (by omega)
  have h4 : 4294967296 ^ (dg b).length ≤ 4294967296 ^ max (dg a).length (dg b).length := Nat.pow_le_pow_right (by omega) (by omega)
  rw [Nat.pow_succ]
  generalize 4294967296 ^ max (dg a).length (dg b).length = p at *
  omega
def cmpZ (a b : Int) : Int := if a < b then -1 else if b < a then 1 else 0
theorem dg_one : dg 1 = [1] := by simp [dg]
theorem cmpN_ge {a b : Nat} : 0 ≤ cmpN a b ↔ b ≤ a := by unfold cmpN; split <;> (try split) <;> omega

theorem len_dg_shl (n k : Nat) : (dg (n * 2 ^ k)).length ≤ (dg n).length + k / 32 + 1 := by
  apply len_dg_le
  have h1 := lt_of_len (n := n)
  have h2 : 2 ^ k ≤ 4294967296 ^ (k / 32 + 1) := by rw [pow32]; exact Nat.pow_le_pow_right (by omega) (by omega)
  have h3 : 0 < 2 ^ k := Nat.pow_pos (by omega)
  rw [show (dg n).length + k / 32 + 1 = (dg n).length + (k / 32 + 1) from by omega, Nat.pow_add]
  have h4 : n * 2 ^ k < 4294967296 ^ (dg n).length * 2 ^ k := Nat.mul_lt_mul_of_pos_right h1 h3
  exact Nat.lt_of_lt_of_le h4 (Nat.mul_le_mul_left _ h2)
theorem len_dg_sub (a b : Nat) : (dg (a - b)).length ≤ (dg a).length := len_dg_mono (Nat.sub_le _ _)
theorem len_dg_div (a b : Nat) : (dg (a / b)).length ≤ (dg a).length := len_dg_mono (Nat.div_le_self _ _)
theorem bl_len {a : List Int} (h : Dig a) {n : Nat} (hn : a.length ≤ n) : bl (val a) ≤ 32 * n := by
  rw [bl_le, ← pow32]
  exact Nat.lt_of_lt_of_le (val_lt h) (Nat.pow_le_pow_right (by omega) hn)
theorem bl_add_le (a b : Nat) : bl (a + b) ≤ max (bl a) (bl b) + 1 := by
  rw [bl_le, Nat.pow_succ]
  have h1 := lt_bl a
  have h2 := lt_bl b
  have h3 : 2 ^ bl a ≤ 2 ^ max (bl a) (bl b) := Nat.pow_le_pow_right (by omega) (by omega)
  have h4 : 2 ^ bl b ≤ 2 ^ max (bl a) (bl b) := Nat.pow_le_pow_right (by omega) (by omega)
  omega
theorem bl_mul_le (a b : Nat) : bl (a * b) ≤ bl a + bl b := by
  rw [bl_le, Nat.pow_add]
  exact Nat.mul_lt_mul'' (lt_bl a) (lt_bl b)
theorem zok_bl {z : Int} {k : Nat} (h : bl z.natAbs ≤ k) (hk : k ≤ 17179869184) : Zok (isNeg z, dg z.natAbs) := zok_bits (bl_le.1 h) hk
theorem len_bl {n k : Nat} (h : bl n ≤ k) : (dg n).length ≤ k / 32 + 1 := len_dg_bits (bl_le.1 h)
theorem cmpZ_sub (a b : Int) : cmpZ (a - b) 0 = cmpZ a b := by unfold cmpZ; split <;> split <;> (try split) <;> (try split) <;> omega
theorem nrm_len {x : List Int} (h : Nrm x) : (dg (val x)).length = x.length := by rw [← h]

/- The formats. -/
abbrev K6 := Int × Int × Int × Int × Int × Int
def kf (w : Bool) : K6 := bif w then (9223372036854775808, 53, -1074, 971, 9218868437227405312, 9221120237041090561) else (2147483648, 24, -149, 104, 2139095040, 2143289345)
def IsK (k : K6) : Prop := k = kf true ∨ k = kf false
/-- The precision; the hidden bit; the least exponent. -/
def kP (k : K6) : Nat := k.2.1.toNat
def kH (k : K6) : Nat := 2 ^ (kP k - 1)
def kE (k : K6) : Int := k.2.2.1
def kG (k : K6) : Int := k.2.2.2.1
def kI (k : K6) : Int := k.2.2.2.2.1
def partM (k : K6) (b : Nat) : Nat := if b / kH k = 0 then b else kH k + b % kH k
/-- How far above the least exponent. -/
def partX (k : K6) (b : Nat) : Nat := b / kH k - 1
def wholeN (k : K6) (b : Nat) : Nat := partM k b * 2 ^ partX k b
def sizeN (k : K6) (n : Nat) : Nat := if bl n < kP k then n else (bl n - kP k) * kH k + n / 2 ^ (bl n - kP k)
def holdZ (m : Int) (e : Int) (l : Int) (f : Int) : Int := cmpZ (m * 2 ^ (e - f).toNat) (l * 2 ^ (f - e).toNat)
/-- Which of s and the size behind it. -/
def roundS (k : K6) (n : Nat) (e : Int) (s : Nat) : Int :=
  min (if 0 < holdZ n e (wholeN k s + wholeN k (s + 1) : Nat) (kE k - 1) ∨ (holdZ n e (wholeN k s + wholeN k (s + 1) : Nat) (kE k - 1) = 0 ∧ s % 2 = 1) then (s : Int) + 1 else s) (kI k)
/-- The size of n * 2^e, rounded. -/
def roundN (k : K6) (n : Nat) (e : Int) : Int :=
  if n = 0 ∨ (bl n : Int) + e < kE k then 0 else if kG k + kP k < (bl n : Int) + e then kI k else
    roundS k n e (sizeN k (if kE k ≤ e then n * 2 ^ (e - kE k).toNat else n / 2 ^ (kE k - e).toNat))
end Go.Proofs.YtfebndgmmekmgaaGreatDoor.M

/- Bits of words; limbs of 64 bits. No program is in sight. -/
namespace Go.Proofs.YtfebndgmmekmgaaGreatDoor.M
open Go

theorem and64 {a b : Int} (ha : 0 ≤ a) (ha' : a < 18446744073709551616) (hb : 0 ≤ b) (hb' : b < 18446744073709551616) : AI.bitsI .and .u64 a b = ((a.toNat &&& b.toNat : Nat) : Int) := by
  obtain ⟨n, rfl⟩ := Int.eq_ofNat_of_zero_le ha
  obtain ⟨m, rfl⟩ := Int.eq_ofNat_of_zero_le hb
  rw [AI.bitsI_eq]
  unfold AI.bitsI0
  simp only
  have e : (BitVec.ofInt IntKind.u64.bits (n : Int) &&& BitVec.ofInt IntKind.u64.bits (m : Int)).toNat = n &&& m := by
    show (BitVec.ofInt 64 (n : Int) &&& BitVec.ofInt 64 (m : Int)).toNat = _
    rw [BitVec.toNat_and]
    have e1 : (BitVec.ofInt 64 (n : Int)).toNat = n := by simp; omega
    have e2 : (BitVec.ofInt 64 (m : Int)).toNat = m := by simp; omega
    rw [e1, e2]
  have hle : n &&& m ≤ n := Nat.and_le_left
  rw [e, wrap_u64 (by omega) (by omega)]
  rfl
theorem or64 {a b : Int} (ha : 0 ≤ a) (ha' : a < 18446744073709551616) (hb : 0 ≤ b) (hb' : b < 18446744073709551616) : AI.bitsI .or .u64 a b = ((a.toNat ||| b.toNat : Nat) : Int) := by
  obtain ⟨n, rfl⟩ := Int.eq_ofNat_of_zero_le ha
  obtain ⟨m, rfl⟩ := Int.eq_ofNat_of_zero_le hb
  rw [AI.bitsI_eq]
  unfold AI.bitsI0
  simp only
  have e : (BitVec.ofInt IntKind.u64.bits (n : Int) ||| BitVec.ofInt IntKind.u64.bits (m : Int)).toNat = n ||| m := by
    show (BitVec.ofInt 64 (n : Int) ||| BitVec.ofInt 64 (m : Int)).toNat = _
    rw [BitVec.toNat_or]
    have e1 : (BitVec.ofInt 64 (n : Int)).toNat = n := by simp; omega
    have e2 : (BitVec.ofInt 64 (m : Int)).toNat = m := by simp; omega
    rw [e1, e2]
  have hlt : n ||| m < 2 ^ 64 := Nat.or_lt_two_pow (by omega) (by omega)
  rw [e, wrap_u64 (by omega) (by omega)]
  rfl

/-- How often 2 divides n (nought of nought). -/
def tz : Nat → Nat
  | 0 => 0
  | n + 1 => if (n + 1) % 2 = 1 then 0 else tz ((n + 1) / 2) + 1
termination_by n => n
decreasing_by omega
theorem tz_odd {n : Nat} (h : n % 2 = 1) : tz n = 0 := by
  cases n with
  | zero => omega
  | succ n => rw [tz, if_pos h]
theorem tz_even {n : Nat} (h0 : n ≠ 0) (h : n % 2 = 0) : tz n = tz (n / 2) + 1 := by
  cases n with
  | zero => omega
  | succ n => rw [tz, if_neg (by omega)]
theorem tz_spec : ∀ n, n ≠ 0 → n % 2 ^ tz n = 0 ∧ (n / 2 ^ tz n) % 2 = 1 := by
  intro n
  induction n using Nat.strongRecOn with
  | _ n ih =>
    intro h0
    by_cases h : n % 2 = 1
    · rw [tz_odd h]; simp [Nat.mod_one]; exact h
    · rw [tz_even h0 (by omega)]
      obtain ⟨h1, h2⟩ := ih (n / 2) (by omega) (by omega)
      have e : 2 ^ (tz (n / 2) + 1) = 2 * 2 ^ tz (n / 2) := by rw [Nat.pow_succ]; omega
      rw [e]
      refine ⟨?_, by rw [← Nat.div_div_eq_div_mul]; exact h2⟩
      have h3 := Nat.div_add_mod (n / 2) (2 ^ tz (n / 2))
      rw [h1] at h3
      generalize tz (n / 2) = t at *
      have h4 : n = 2 * 2 ^ t * (n / 2 / 2 ^ t) := by rw [Nat.mul_assoc]; omega
      generalize n / 2 / 2 ^ t = q at *
      rw [h4]
      exact Nat.mul_mod_right _ _
theorem tz_lt {n : Nat} (h : n ≠ 0) : 2 ^ tz n ≤ n := by
  obtain ⟨h1, h2⟩ := tz_spec n h
  have h3 := Nat.div_add_mod n (2 ^ tz n)
  rw [h1] at h3
  generalize 2 ^ tz n = p at *
  generalize n / p = q at *
  have : p * 1 ≤ p * q := Nat.mul_le_mul_left _ (by omega)
  omega
theorem tz_mul {n : Nat} (h : n ≠ 0) : ∀ k, tz (2 ^ k * n) = k + tz n
  | 0 => by simp
  | k + 1 => by
    have hp : 0 < 2 ^ k := Nat.pow_pos (by omega)
    have h0 : 2 ^ k * n ≠ 0 := Nat.mul_ne_zero (by omega) h
    have e : 2 ^ (k + 1) * n = 2 * (2 ^ k * n) := by rw [Nat.pow_succ, Nat.mul_comm (2 ^ k) 2, Nat.mul_assoc]
    rw [e, tz_even (by omega) (by omega), Nat.mul_div_cancel_left _ (by omega), tz_mul h k]
    omega
theorem tz_add {r k n : Nat} (hr : r < 2 ^ k) (h : r ≠ 0) : tz (r + 2 ^ k * n) = tz r := by
  induction k generalizing r n with
  | zero => simp at hr; omega
  | succ k ih =>
    have e : 2 ^ (k + 1) * n = 2 * (2 ^ k * n) := by rw [Nat.pow_succ, Nat.mul_comm (2 ^ k) 2, Nat.mul_assoc]
    rw [e]
    rw [Nat.pow_succ] at hr
    by_cases ho : r % 2 = 1
    · rw [tz_odd ho, tz_odd (by omega)]
    · rw [tz_even (by omega) (by omega), tz_even h (by omega), show (r + 2 * (2 ^ k * n)) / 2 = r / 2 + 2 ^ k * n from by omega, ih (by omega) (by omega)]

theorem land_bit (a b : Nat) : a &&& b = 2 * (a / 2 &&& b / 2) + (if a % 2 = 1 ∧ b % 2 = 1 then 1 else 0) := by
  have h1 : (a &&& b) / 2 = a / 2 &&& b / 2 := Nat.and_div_two
  have h2 : (a &&& b) % 2 = 1 ↔ a % 2 = 1 ∧ b % 2 = 1 := Nat.and_mod_two_eq_one
  rw [← h1]
  split
  · rename_i h; have := h2.2 h; omega
  · rename_i h
    have : ¬ (a &&& b) % 2 = 1 := fun hh => h (h2.1 hh)
    omega
theorem land_compl : ∀ (p m : Nat), m < 2 ^ p → m &&& (2 ^ p - 1 - m) = 0
  | 0, m, h => by simp at h; subst h; rfl
  | p + 1, m, h => by
    rw [Nat.pow_succ] at h ⊢
    rw [land_bit, show (2 ^ p * 2 - 1 - m) / 2 = 2 ^ p - 1 - m / 2 from by omega, land_compl p (m / 2) (by omega), if_neg (by omega)]
/-- The lowest one of a word, by its opposite. -/
theorem land_neg : ∀ (p a b : Nat), a + b = 2 ^ p → a ≠ 0 → b ≠ 0 → a &&& b = 2 ^ tz a
  | 0, a, b, h, ha, hb => by simp at h; omega
  | p + 1, a, b, h, ha, hb => by
    rw [Nat.pow_succ] at h
    rw [land_bit]
    by_cases ho : a % 2 = 1
    · rw [tz_odd ho, show b / 2 = 2 ^ p - 1 - a / 2 from by omega, land_compl p (a / 2) (by omega), if_pos (by omega)]
    · rw [tz_even ha (by omega), land_neg p (a / 2) (b / 2) (by omega) (by omega) (by omega), if_neg (by omega), Nat.pow_succ, Nat.mul_comm, Nat.add_zero]

/- What is laid place by place. -/
theorem set_fill {pre : List Int} {i k : Nat} (h : pre.length = i) (v : Int) : (pre ++ List.replicate (k + 1) 0).set i v = (pre ++ [v]) ++ List.replicate k 0 := by
  subst h
  rw [List.set_append_right _ _ (Nat.le_refl _), Nat.sub_self, List.replicate_succ, List.set_cons_zero, List.append_assoc]
  rfl
theorem getD_fill {pre : List Int} {i : Nat} (h : pre.length = i) (v : Int) (r : List Int) : (pre ++ v :: r).getD i 0 = v := by
  subst h
  simp [List.getD_eq_getElem?_getD]
theorem set_at {pre : List Int} {i : Nat} (h : pre.length = i) (v u : Int) (r : List Int) : (pre ++ v :: r).set i u = pre ++ u :: r := by
  subst h
  rw [List.set_append_right _ _ (Nat.le_refl _), Nat.sub_self, List.set_cons_zero]
theorem or_low {c n k : Nat} (h : c < 2 ^ k) : c ||| 2 ^ k * n = c + 2 ^ k * n := by
  rw [Nat.or_comm, ← Nat.two_pow_add_eq_or_of_lt h, Nat.add_comm]
theorem pow64 (k : Nat) : 18446744073709551616 ^ k = 2 ^ (64 * k) := by rw [Nat.pow_mul]
theorem len6_bits {n k : Nat} (h : n < 2 ^ k) : (M6.dg n).length ≤ k / 64 + 1 := by
  apply M6.len_dg_le
  rw [pow64]
  exact Nat.lt_of_lt_of_le h (Nat.pow_le_pow_right (by omega) (by omega))
theorem len6_bl {n k : Nat} (h : bl n ≤ 64 * k) : (M6.dg n).length ≤ k := by
  apply M6.len_dg_le
  rw [pow64, ← bl_le]
  exact h
theorem bl6_len {a : List Int} (h : M6.Dig a) {n : Nat} (hn : a.length ≤ n) : bl (M6.val a) ≤ 64 * n := by
  rw [bl_le, ← pow64]
  exact Nat.lt_of_lt_of_le (M6.val_lt h) (Nat.pow_le_pow_right (by omega) hn)
theorem nrm6_len {x : List Int} (h : M6.Nrm x) : (M6.dg (M6.val x)).length = x.length := by rw [← h]
theorem tdiv64 {n : Int} (h : 0 ≤ n) : n.tdiv 64 = n / 64 := Int.tdiv_eq_ediv_of_nonneg h
theorem tmod64 {n : Int} (h : 0 ≤ n) : n.tmod 64 = n % 64 := Int.tmod_eq_emod_of_nonneg h
theorem pow_split6 (n : Nat) : 2 ^ n = 18446744073709551616 ^ (n / 64) * 2 ^ (n % 64) := by
  rw [pow64, ← Nat.pow_add]; congr 1; omega
/-- A word, shifted up: what goes over, what stays. -/
theorem shl_parts (x k : Nat) (h : k < 64) : x * 2 ^ k = 18446744073709551616 * (x / 2 ^ (64 - k)) + x * 2 ^ k % 18446744073709551616 := by
  have e : (18446744073709551616 : Nat) = 2 ^ (64 - k) * 2 ^ k := by rw [← Nat.pow_add, show 64 - k + k = 64 from by omega]
  have h1 : x * 2 ^ k / 18446744073709551616 = x / 2 ^ (64 - k) := by
    rw [e, Nat.mul_div_mul_right _ _ (Nat.pow_pos (by omega))]
  have := Nat.div_add_mod (x * 2 ^ k) 18446744073709551616
  rw [h1] at this
  omega
theorem shl_low (x k : Nat) (h : k < 64) : x * 2 ^ k % 18446744073709551616 = 2 ^ k * (x % 2 ^ (64 - k)) := by
  have e : (18446744073709551616 : Nat) = 2 ^ (64 - k) * 2 ^ k := by rw [← Nat.pow_add, show 64 - k + k = 64 from by omega]
  rw [e, Nat.mul_mod_mul_right, Nat.mul_comm]
end Go.Proofs.YtfebndgmmekmgaaGreatDoor.M

/- The table of types of this program, and what all functions' texts begin with. -/
namespace Go.Proofs.YtfebndgmmekmgaaGreatDoor.W
open Go Go.Proofs.YtfebndgmmekmgaaGreatDoor.AI
noncomputable def tbl : List (Nat × TI) := [
  (2, { size := nat_lit 1, bytes := nat_lit 8, zero := [Value.int IntKind.i64 (Int.ofNat (nat_lit 0))], kind := TK.int IntKind.i64 }),
  (3, { size := nat_lit 1, bytes := nat_lit 8, zero := [Value.int IntKind.i64 (Int.ofNat (nat_lit 0))], kind := TK.int IntKind.i64 }),
  (4, { size := nat_lit 1, bytes := nat_lit 1, zero := [Value.bool false], kind := TK.bool }),
  (5, { size := nat_lit 1, bytes := nat_lit 1, zero := [Value.int IntKind.u8 (Int.ofNat (nat_lit 0))], kind := TK.int IntKind.u8 }),
  (6, { size := nat_lit 1, bytes := nat_lit 1, zero := [Value.int IntKind.u8 (Int.ofNat (nat_lit 0))], kind := TK.int IntKind.u8 }),
  (7, { size := nat_lit 4, bytes := nat_lit 24, zero := [Value.int IntKind.i64 (Int.ofNat (nat_lit 0)), Value.int IntKind.i64 (Int.ofNat (nat_lit 0)), Value.bool false, Value.int IntKind.u8 (Int.ofNat (nat_lit 0))], kind := TK.struct [(nat_lit 0, nat_lit 1, false), (nat_lit 1, nat_lit 1, false), (nat_lit 2, nat_lit 1, false), (nat_lit 3, nat_lit 1, false)] }),
  (8, { size := nat_lit 4, bytes := nat_lit 24, zero := [Value.int IntKind.i64 (Int.ofNat (nat_lit 0)), Value.int IntKind.i64 (Int.ofNat (nat_lit 0)), Value.bool false, Value.int IntKind.u8 (Int.ofNat (nat_lit 0))], kind := TK.struct [(nat_lit 0, nat_lit 1, false), (nat_lit 1, nat_lit 1, false), (nat_lit 2, nat_lit 1, false), (nat_lit 3, nat_lit 1, false)] }),
  (9, { size := 1, bytes := 16, zero := [Value.string ByteArray.empty], kind := TK.str }),
  (10, { size := 1, bytes := 16, zero := [Value.string ByteArray.empty], kind := TK.str }),
  (11, { size := 1, bytes := 16, zero := [Value.string ByteArray.empty], kind := TK.str }),
  (12, { size := nat_lit 1, bytes := nat_lit 8, zero := [Value.int IntKind.u64 (Int.ofNat (nat_lit 0))], kind := TK.int IntKind.u64 }),
  (18, { size := nat_lit 1, bytes := nat_lit 8, zero := [Value.pointer none], kind := TK.struct [(nat_lit 0, nat_lit 1, false)] }),
  (19, { size := nat_lit 1, bytes := nat_lit 8, zero := [Value.pointer none], kind := TK.struct [(nat_lit 0, nat_lit 1, false)] }),
  (21, { size := nat_lit 1, bytes := nat_lit 4, zero := [Value.int IntKind.i32 (Int.ofNat (nat_lit 0))], kind := TK.int IntKind.i32 }),
  (22, { size := nat_lit 1, bytes := nat_lit 24, zero := [Value.slice none (nat_lit 0) (nat_lit 0)], kind := TK.slice (nat_lit 24) }),
  (24, { size := nat_lit 1, bytes := nat_lit 8, zero := [Value.int IntKind.u64 (Int.ofNat (nat_lit 0))], kind := TK.int IntKind.u64 }),
  (25, { size := nat_lit 2, bytes := nat_lit 32, zero := [Value.bool false, Value.slice none (nat_lit 0) (nat_lit 0)], kind := TK.struct [(nat_lit 0, nat_lit 1, false), (nat_lit 1, nat_lit 1, false)] }),
  (26, { size := nat_lit 2, bytes := nat_lit 32, zero := [Value.bool false, Value.slice none (nat_lit 0) (nat_lit 0)], kind := TK.struct [(nat_lit 0, nat_lit 1, false), (nat_lit 1, nat_lit 1, false)] }),
  (27, { size := nat_lit 3, bytes := nat_lit 40, zero := [Value.bool false, Value.slice none (nat_lit 0) (nat_lit 0), Value.int IntKind.i64 (Int.ofNat (nat_lit 0))], kind := TK.struct [(nat_lit 0, nat_lit 2, true), (nat_lit 2, nat_lit 1, false)] }),
  (28, { size := nat_lit 3, bytes := nat_lit 40, zero := [Value.bool false, Value.slice none (nat_lit 0) (nat_lit 0), Value.int IntKind.i64 (Int.ofNat (nat_lit 0))], kind := TK.struct [(nat_lit 0, nat_lit 2, true), (nat_lit 2, nat_lit 1, false)] }),
  (29, { size := nat_lit 1, bytes := nat_lit 8, zero := [Value.int IntKind.i64 (Int.ofNat (nat_lit 0))], kind := TK.int IntKind.i64 }),
  (36, { size := nat_lit 1, bytes := nat_lit 24, zero := [Value.slice none (nat_lit 0) (nat_lit 0)], kind := TK.slice (nat_lit 38) }),
  (37, { size := nat_lit 4, bytes := nat_lit 32, zero := [Value.int IntKind.i64 (Int.ofNat (nat_lit 0)), Value.int IntKind.i64 (Int.ofNat (nat_lit 0)), Value.int IntKind.u64 (Int.ofNat (nat_lit 0)), Value.int IntKind.i64 (Int.ofNat (nat_lit 0))], kind := TK.struct [(nat_lit 0, nat_lit 1, false), (nat_lit 1, nat_lit 1, false), (nat_lit 2, nat_lit 1, false), (nat_lit 3, nat_lit 1, false)] }),
  (38, { size := nat_lit 4, bytes := nat_lit 32, zero := [Value.int IntKind.i64 (Int.ofNat (nat_lit 0)), Value.int IntKind.i64 (Int.ofNat (nat_lit 0)), Value.int IntKind.u64 (Int.ofNat (nat_lit 0)), Value.int IntKind.i64 (Int.ofNat (nat_lit 0))], kind := TK.struct [(nat_lit 0, nat_lit 1, false), (nat_lit 1, nat_lit 1, false), (nat_lit 2, nat_lit 1, false), (nat_lit 3, nat_lit 1, false)] }),
  (41, { size := nat_lit 1, bytes := nat_lit 8, zero := [Value.int IntKind.i64 (Int.ofNat (nat_lit 0))], kind := TK.int IntKind.i64 }),
  (42, { size := nat_lit 1, bytes := nat_lit 8, zero := [Value.int IntKind.i64 (Int.ofNat (nat_lit 0))], kind := TK.int IntKind.i64 }),
  (66, { size := nat_lit 6, bytes := nat_lit 80, zero := [Value.bool false, Value.slice none (nat_lit 0) (nat_lit 0), Value.int IntKind.i64 (Int.ofNat (nat_lit 0)), Value.bool false, Value.slice none (nat_lit 0) (nat_lit 0), Value.int IntKind.i64 (Int.ofNat (nat_lit 0))], kind := TK.struct [(nat_lit 0, nat_lit 3, true), (nat_lit 3, nat_lit 3, true)] }),
  (67, { size := nat_lit 6, bytes := nat_lit 80, zero := [Value.bool false, Value.slice none (nat_lit 0) (nat_lit 0), Value.int IntKind.i64 (Int.ofNat (nat_lit 0)), Value.bool false, Value.slice none (nat_lit 0) (nat_lit 0), Value.int IntKind.i64 (Int.ofNat (nat_lit 0))], kind := TK.struct [(nat_lit 0, nat_lit 3, true), (nat_lit 3, nat_lit 3, true)] }),
  (74, { size := nat_lit 1, bytes := nat_lit 24, zero := [Value.slice none (nat_lit 0) (nat_lit 0)], kind := TK.slice (nat_lit 180) }),
  (75, { size := nat_lit 2, bytes := nat_lit 32, zero := [Value.bool false, Value.slice none (nat_lit 0) (nat_lit 0)], kind := TK.struct [(nat_lit 0, nat_lit 1, false), (nat_lit 1, nat_lit 1, false)] }),
  (76, { size := nat_lit 2, bytes := nat_lit 32, zero := [Value.bool false, Value.slice none (nat_lit 0) (nat_lit 0)], kind := TK.struct [(nat_lit 0, nat_lit 1, false), (nat_lit 1, nat_lit 1, false)] }),
  (84, { size := nat_lit 1, bytes := nat_lit 8, zero := [Value.int IntKind.i64 (Int.ofNat (nat_lit 0))], kind := TK.int IntKind.i64 }),
  (88, { size := nat_lit 2, bytes := nat_lit 16, zero := [Value.int IntKind.i64 (Int.ofNat (nat_lit 0)), Value.bool false], kind := TK.struct [(nat_lit 0, nat_lit 1, false), (nat_lit 1, nat_lit 1, false)] }),
  (89, { size := nat_lit 2, bytes := nat_lit 16, zero := [Value.int IntKind.i64 (Int.ofNat (nat_lit 0)), Value.bool false], kind := TK.struct [(nat_lit 0, nat_lit 1, false), (nat_lit 1, nat_lit 1, false)] }),
  (92, { size := nat_lit 6, bytes := nat_lit 48, zero := [Value.int IntKind.u64 (Int.ofNat (nat_lit 0)), Value.int IntKind.i64 (Int.ofNat (nat_lit 0)), Value.int IntKind.i64 (Int.ofNat (nat_lit 0)), Value.int IntKind.i64 (Int.ofNat (nat_lit 0)), Value.int IntKind.u64 (Int.ofNat (nat_lit 0)), Value.int IntKind.u64 (Int.ofNat (nat_lit 0))], kind := TK.struct [(nat_lit 0, nat_lit 1, false), (nat_lit 1, nat_lit 1, false), (nat_lit 2, nat_lit 1, false), (nat_lit 3, nat_lit 1, false), (nat_lit 4, nat_lit 1, false), (nat_lit 5, nat_lit 1, false)] }),
  (93, { size := nat_lit 6, bytes := nat_lit 48, zero := [Value.int IntKind.u64 (Int.ofNat (nat_lit 0)), Value.int IntKind.i64 (Int.ofNat (nat_lit 0)), Value.int IntKind.i64 (Int.ofNat (nat_lit 0)), Value.int IntKind.i64 (Int.ofNat (nat_lit 0)), Value.int IntKind.u64 (Int.ofNat (nat_lit 0)), Value.int IntKind.u64 (Int.ofNat (nat_lit 0))], kind := TK.struct [(nat_lit 0, nat_lit 1, false), (nat_lit 1, nat_lit 1, false), (nat_lit 2, nat_lit 1, false), (nat_lit 3, nat_lit 1, false), (nat_lit 4, nat_lit 1, false), (nat_lit 5, nat_lit 1, false)] }),
  (104, { size := nat_lit 4, bytes := nat_lit 32, zero := [Value.int IntKind.i64 (Int.ofNat (nat_lit 0)), Value.int IntKind.i64 (Int.ofNat (nat_lit 0)), Value.int IntKind.i64 (Int.ofNat (nat_lit 0)), Value.int IntKind.u64 (Int.ofNat (nat_lit 0))], kind := TK.struct [(nat_lit 0, nat_lit 1, false), (nat_lit 1, nat_lit 1, false), (nat_lit 2, nat_lit 1, false), (nat_lit 3, nat_lit 1, false)] }),
  (105, { size := nat_lit 4, bytes := nat_lit 32, zero := [Value.int IntKind.i64 (Int.ofNat (nat_lit 0)), Value.int IntKind.i64 (Int.ofNat (nat_lit 0)), Value.int IntKind.i64 (Int.ofNat (nat_lit 0)), Value.int IntKind.u64 (Int.ofNat (nat_lit 0))], kind := TK.struct [(nat_lit 0, nat_lit 1, false), (nat_lit 1, nat_lit 1, false), (nat_lit 2, nat_lit 1, false), (nat_lit 3, nat_lit 1, false)] }),
  (145, { size := nat_lit 1, bytes := nat_lit 8, zero := [Value.int IntKind.i64 (Int.ofNat (nat_lit 0))], kind := TK.int IntKind.i64 }),
  (147, { size := nat_lit 8, bytes := nat_lit 64, zero := [Value.int IntKind.u64 (Int.ofNat (nat_lit 0)), Value.int IntKind.u64 (Int.ofNat (nat_lit 0)), Value.int IntKind.u64 (Int.ofNat (nat_lit 0)), Value.int IntKind.u64 (Int.ofNat (nat_lit 0)), Value.int IntKind.u64 (Int.ofNat (nat_lit 0)), Value.int IntKind.u64 (Int.ofNat (nat_lit 0)), Value.int IntKind.u64 (Int.ofNat (nat_lit 0)), Value.int IntKind.u64 (Int.ofNat (nat_lit 0))], kind := TK.arr (nat_lit 8) (nat_lit 1) false }),
  (153, { size := nat_lit 1, bytes := nat_lit 8, zero := [Value.int IntKind.u64 (Int.ofNat (nat_lit 0))], kind := TK.int IntKind.u64 }),
  (163, { size := nat_lit 3, bytes := nat_lit 24, zero := [Value.int IntKind.i64 (Int.ofNat (nat_lit 0)), Value.int IntKind.i64 (Int.ofNat (nat_lit 0)), Value.int IntKind.i64 (Int.ofNat (nat_lit 0))], kind := TK.struct [(nat_lit 0, nat_lit 1, false), (nat_lit 1, nat_lit 1, false), (nat_lit 2, nat_lit 1, false)] }),
  (164, { size := nat_lit 3, bytes := nat_lit 24, zero := [Value.int IntKind.i64 (Int.ofNat (nat_lit 0)), Value.int IntKind.i64 (Int.ofNat (nat_lit 0)), Value.int IntKind.i64 (Int.ofNat (nat_lit 0))], kind := TK.struct [(nat_lit 0, nat_lit 1, false), (nat_lit 1, nat_lit 1, false), (nat_lit 2, nat_lit 1, false)] }),
  (180, { size := nat_lit 1, bytes := nat_lit 4, zero := [Value.int IntKind.u32 (Int.ofNat (nat_lit 0))], kind := TK.int IntKind.u32 }),
  (193, { size := nat_lit 1, bytes := nat_lit 24, zero := [Value.slice none (nat_lit 0) (nat_lit 0)], kind := TK.slice (nat_lit 28) }),
  (198, { size := nat_lit 1, bytes := nat_lit 24, zero := [Value.slice none (nat_lit 0) (nat_lit 0)], kind := TK.slice (nat_lit 67) }),
  (206, { size := nat_lit 64, bytes := nat_lit 64, zero := [Value.int IntKind.u8 (Int.ofNat (nat_lit 0)), Value.int IntKind.u8 (Int.ofNat (nat_lit 0)), Value.int IntKind.u8 (Int.ofNat (nat_lit 0)), Value.int IntKind.u8 (Int.ofNat (nat_lit 0)), Value.int IntKind.u8 (Int.ofNat (nat_lit 0)), Value.int IntKind.u8 (Int.ofNat (nat_lit 0)), Value.int IntKind.u8 (Int.ofNat (nat_lit 0)), Value.int IntKind.u8 (Int.ofNat (nat_lit 0)), Value.int IntKind.u8 (Int.ofNat (nat_lit 0)), Value.int IntKind.u8 (Int.ofNat (nat_lit 0)), Value.int IntKind.u8 (Int.ofNat (nat_lit 0)), Value.int IntKind.u8 (Int.ofNat (nat_lit 0)), Value.int IntKind.u8 (Int.ofNat (nat_lit 0)), Value.int IntKind.u8 (Int.ofNat (nat_lit 0)), Value.int IntKind.u8 (Int.ofNat (nat_lit 0)), Value.int IntKind.u8 (Int.ofNat (nat_lit 0)), Value.int IntKind.u8 (Int.ofNat (nat_lit 0)), Value.int IntKind.u8 (Int.ofNat (nat_lit 0)), Value.int IntKind.u8 (Int.ofNat (nat_lit 0)), Value.int IntKind.u8 (Int.ofNat (nat_lit 0)), Value.int IntKind.u8 (Int.ofNat (nat_lit 0)), Value.int IntKind.u8 (Int.ofNat (nat_lit 0)), Value.int IntKind.u8 (Int.ofNat (nat_lit 0)), Value.int IntKind.u8 (Int.ofNat (nat_lit 0)), Value.int IntKind.u8 (Int.ofNat (nat_lit 0)), Value.int IntKind.u8 (Int.ofNat (nat_lit 0)), Value.int IntKind.u8 (Int.ofNat (nat_lit 0)), Value.int IntKind.u8 (Int.ofNat (nat_lit 0)), Value.int IntKind.u8 (Int.ofNat (nat_lit 0)), Value.int IntKind.u8 (Int.ofNat (nat_lit 0)), Value.int IntKind.u8 (Int.ofNat (nat_lit 0)), Value.int IntKind.u8 (Int.ofNat (nat_lit 0)), Value.int IntKind.u8 (Int.ofNat (nat_lit 0)), Value.int IntKind.u8 (Int.ofNat (nat_lit 0)), Value.int IntKind.u8 (Int.ofNat (nat_lit 0)), Value.int IntKind.u8 (Int.ofNat (nat_lit 0)), Value.int IntKind.u8 (Int.ofNat (nat_lit 0)), Value.int IntKind.u8 (Int.ofNat (nat_lit 0)), Value.int IntKind.u8 (Int.ofNat (nat_lit 0)), Value.int IntKind.u8 (Int.ofNat (nat_lit 0)), Value.int IntKind.u8 (Int.ofNat (nat_lit 0)), Value.int IntKind.u8 (Int.ofNat (nat_lit 0)), Value.int IntKind.u8 (Int.ofNat (nat_lit 0)), Value.int IntKind.u8 (Int.ofNat (nat_lit 0)), Value.int IntKind.u8 (Int.ofNat (nat_lit 0)), Value.int IntKind.u8 (Int.ofNat (nat_lit 0)), Value.int IntKind.u8 (Int.ofNat (nat_lit 0)), Value.int IntKind.u8 (Int.ofNat (nat_lit 0)), Value.int IntKind.u8 (Int.ofNat (nat_lit 0)), Value.int IntKind.u8 (Int.ofNat (nat_lit 0)), Value.int IntKind.u8 (Int.ofNat (nat_lit 0)), Value.int IntKind.u8 (Int.ofNat (nat_lit 0)), Value.int IntKind.u8 (Int.ofNat (nat_lit 0)), Value.int IntKind.u8 (Int.ofNat (nat_lit 0)), Value.int IntKind.u8 (Int.ofNat (nat_lit 0)), Value.int IntKind.u8 (Int.ofNat (nat_lit 0)), Value.int IntKind.u8 (Int.ofNat (nat_lit 0)), Value.int IntKind.u8 (Int.ofNat (nat_lit 0)), Value.int IntKind.u8 (Int.ofNat (nat_lit 0)), Value.int IntKind.u8 (Int.ofNat (nat_lit 0)), Value.int IntKind.u8 (Int.ofNat (nat_lit 0)), Value.int IntKind.u8 (Int.ofNat (nat_lit 0)), Value.int IntKind.u8 (Int.ofNat (nat_lit 0)), Value.int IntKind.u8 (Int.ofNat (nat_lit 0))], kind := TK.arr (nat_lit 64) (nat_lit 1) false }),
  (222, { size := nat_lit 1, bytes := nat_lit 8, zero := [Value.int IntKind.i64 (Int.ofNat (nat_lit 0))], kind := TK.int IntKind.i64 }),
  (238, { size := nat_lit 4, bytes := nat_lit 96, zero := [Value.slice none (nat_lit 0) (nat_lit 0), Value.slice none (nat_lit 0) (nat_lit 0), Value.slice none (nat_lit 0) (nat_lit 0), Value.slice none (nat_lit 0) (nat_lit 0)], kind := TK.arr (nat_lit 4) (nat_lit 1) false }),
  (247, { size := nat_lit 0, bytes := nat_lit 0, zero := [], kind := TK.arr (nat_lit 0) (nat_lit 1) false }),
  (248, { size := nat_lit 0, bytes := nat_lit 0, zero := [], kind := TK.struct [(nat_lit 0, nat_lit 0, true)] }),
  (249, { size := nat_lit 0, bytes := nat_lit 0, zero := [], kind := TK.struct [(nat_lit 0, nat_lit 0, true)] }),
  (251, { size := nat_lit 1, bytes := nat_lit 1, zero := [Value.int IntKind.u8 (Int.ofNat (nat_lit 0))], kind := TK.int IntKind.u8 }),
  (252, { size := nat_lit 1, bytes := nat_lit 1, zero := [Value.int IntKind.u8 (Int.ofNat (nat_lit 0))], kind := TK.int IntKind.u8 }),
  (255, { size := nat_lit 1, bytes := nat_lit 4, zero := [Value.int IntKind.i32 (Int.ofNat (nat_lit 0))], kind := TK.int IntKind.i32 }),
  (256, { size := nat_lit 1, bytes := nat_lit 4, zero := [Value.int IntKind.i32 (Int.ofNat (nat_lit 0))], kind := TK.int IntKind.i32 }),
  (257, { size := nat_lit 11, bytes := nat_lit 48, zero := [Value.int IntKind.u64 (Int.ofNat (nat_lit 0)), Value.int IntKind.u64 (Int.ofNat (nat_lit 0)), Value.int IntKind.u32 (Int.ofNat (nat_lit 0)), Value.int IntKind.u8 (Int.ofNat (nat_lit 0)), Value.int IntKind.u8 (Int.ofNat (nat_lit 0)), Value.int IntKind.u8 (Int.ofNat (nat_lit 0)), Value.int IntKind.u8 (Int.ofNat (nat_lit 0)), Value.nilFunc, Value.pointer none, Value.int IntKind.i32 (Int.ofNat (nat_lit 0)), Value.int IntKind.i32 (Int.ofNat (nat_lit 0))], kind := TK.struct [(nat_lit 0, nat_lit 1, false), (nat_lit 1, nat_lit 1, false), (nat_lit 2, nat_lit 1, false), (nat_lit 3, nat_lit 1, false), (nat_lit 4, nat_lit 1, false), (nat_lit 5, nat_lit 1, false), (nat_lit 6, nat_lit 1, false), (nat_lit 7, nat_lit 1, false), (nat_lit 8, nat_lit 1, false), (nat_lit 9, nat_lit 1, false), (nat_lit 10, nat_lit 1, false)] }),
  (258, { size := nat_lit 11, bytes := nat_lit 48, zero := [Value.int IntKind.u64 (Int.ofNat (nat_lit 0)), Value.int IntKind.u64 (Int.ofNat (nat_lit 0)), Value.int IntKind.u32 (Int.ofNat (nat_lit 0)), Value.int IntKind.u8 (Int.ofNat (nat_lit 0)), Value.int IntKind.u8 (Int.ofNat (nat_lit 0)), Value.int IntKind.u8 (Int.ofNat (nat_lit 0)), Value.int IntKind.u8 (Int.ofNat (nat_lit 0)), Value.nilFunc, Value.pointer none, Value.int IntKind.i32 (Int.ofNat (nat_lit 0)), Value.int IntKind.i32 (Int.ofNat (nat_lit 0))], kind := TK.struct [(nat_lit 0, nat_lit 1, false), (nat_lit 1, nat_lit 1, false), (nat_lit 2, nat_lit 1, false), (nat_lit 3, nat_lit 1, false), (nat_lit 4, nat_lit 1, false), (nat_lit 5, nat_lit 1, false), (nat_lit 6, nat_lit 1, false), (nat_lit 7, nat_lit 1, false), (nat_lit 8, nat_lit 1, false), (nat_lit 9, nat_lit 1, false), (nat_lit 10, nat_lit 1, false)] })]
theorem ty_ok : TyOk Tryz.prog (tlook tbl) := tyOk_of tbl (by kernel_rfl) (by kernel_rfl) (by kernel_rfl)
def ext : FuncId → List Value → Option (Prop × List Value) := (extIs 112 gSub (extIs 171 gAdd extNone))
theorem ext_ok : ExtOk Tryz.prog ext := (extIs_ok (extFn_of (P := Tryz.prog) (f := 112) (fn := Tryz.f112) (e := sub64Entry) Tryz.func112 rfl rfl (by kernel_rfl) (by kernel_rfl)) gSub_ok (extIs_ok (extFn_of (P := Tryz.prog) (f := 171) (fn := Tryz.f171) (e := add64Entry) Tryz.func171 rfl rfl (by kernel_rfl) (by kernel_rfl)) gAdd_ok extNone_ok))
def globs (g : Nat) : Option (IntKind × List Int) := bif Nat.beq g 0 then some (.u8, [0, 1, 56, 2, 57, 49, 28, 3, 61, 58, 42, 50, 38, 29, 17, 4, 62, 47, 59, 36, 45, 43, 51, 22, 53, 39, 33, 30, 24, 18, 12, 5, 63, 55, 48, 27, 60, 41, 37, 16, 46, 35, 44, 21, 52, 32, 23, 11, 54, 26, 40, 15, 34, 20, 31, 10, 25, 14, 19, 9, 13, 8, 7, 6]) else (none)
noncomputable def base : Env := { T := tlook tbl, C := fun _ _ => none, ext := ext, glob := globs, nt := 0, own := [], keep := fun _ => [], roll := fun _ => none, cut := fun _ => none }
theorem mixed : Tryz.prog.follows .mixedOrders = true := by kernel_rfl
abbrev tU32 : TypeId := 180
abbrev tU64 : TypeId := 24
abbrev tU8 : TypeId := 5
end Go.Proofs.YtfebndgmmekmgaaGreatDoor.W

/- Whole numbers with a sign to the base 2^64, as they lie. No program is in sight. And contracts of five parameters. -/
namespace Go.Proofs.YtfebndgmmekmgaaGreatDoor.AI
open Go Go.RowKit
theorem Contract.of5 {P : Program} {G : Nat → Option (IntKind × List Int)} {f : FuncId} {d d' e e' g g' k k' l l' : D} {rs : List D} (h : Contract P G f [d', e', g', k', l'] rs) (hd : DLe d d') (he : DLe e e') (hg : DLe g g') (hk : DLe k k') (hl : DLe l l') : Contract P G f [d, e, g, k, l] rs :=
  h.of rfl fun i x x' hx hx' => by
    match i with
    | 0 => simp at hx hx'; subst hx; subst hx'; exact hd
    | 1 => simp at hx hx'; subst hx; subst hx'; exact he
    | 2 => simp at hx hx'; subst hx; subst hx'; exact hg
    | 3 => simp at hx hx'; subst hx; subst hx'; exact hk
    | 4 => simp at hx hx'; subst hx; subst hx'; exact hl
    | i + 5 => simp at hx
def orc5 {α β γ δ ε : Type} (p : Par α) (q : Par β) (r : Par γ) (s : Par δ) (t : Par ε) (f : α → β → γ → δ → ε → Prop × List D) : Orc
  | [a, b, c, d, e] => match p.get a, q.get b, r.get c, s.get d, t.get e with
    | some x, some y, some z, some u, some v => some (f x y z u v)
    | _, _, _, _, _ => none
  | _ => none
variable {P : Program} {E : Env} {f : FuncId} {fn : Func} {c : Code}
theorem FnOk.ok5 {α β γ δ ε : Type} (h : FnOk P E f fn c) {p : Par α} {p' : Par β} {p'' : Par γ} {p3 : Par δ} {p4 : Par ε} {g : α → β → γ → δ → ε → Prop × List D} (hn : Nat.ble 5 fn.ntmps = true) (hs : ∀ x y z u v, (g x y z u v).1 → evalFn E fn c [p.put x, p'.put y, p''.put z, p3.put u, p4.put v] = some (g x y z u v).2) : OrcOk P E.glob f (orc5 p p' p'' p3 p4 g) := by
  intro ds q rs hd hg
  unfold orc5 at hd
  split at hd
  · split at hd
    · rename_i x y z u v hx hy hz hu hv
      have hd := Option.some.inj hd
      have e1 : q = (g x y z u v).1 := by rw [hd]
      have e2 : rs = (g x y z u v).2 := by rw [hd]
      subst e1; subst e2
      exact ⟨(fn_contract (ds := [p.put x, p'.put y, p''.put z, p3.put u, p4.put v]) h.ty h.calls h.mix h.fnc h.body h.nt (Nat.le_of_ble_eq_true hn) (hs x y z u v hg)).of5 (p.le hx) (p'.le hy) (p''.le hz) (p3.le hu) (p4.le hv), h.has⟩
    · cases hd
  · cases hd

theorem FnOk.wk5 {α β γ δ ε : Type} (h : FnOk P E f fn c) {p : Par α} {p' : Par β} {p'' : Par γ} {p3 : Par δ} {p4 : Par ε} {g : α → β → γ → δ → ε → Prop × List D} (hn : Nat.ble 5 fn.ntmps = true) (hs : ∀ x y z u v, (g x y z u v).1 → ∃ rs, evalFn E fn c [p.put x, p'.put y, p''.put z, p3.put u, p4.put v] = some rs ∧ RsLe rs (g x y z u v).2) : OrcOk P E.glob f (orc5 p p' p'' p3 p4 g) := by
  intro ds q rs hd hg
  unfold orc5 at hd
  split at hd
  · split at hd
    · rename_i x y z u v hx hy hz hu hv
      have hd := Option.some.inj hd
      have e1 : q = (g x y z u v).1 := by rw [hd]
      have e2 : rs = (g x y z u v).2 := by rw [hd]
      subst e1; subst e2
      obtain ⟨rs2, he, hle⟩ := hs x y z u v hg
      exact ⟨((fn_contract (ds := [p.put x, p'.put y, p''.put z, p3.put u, p4.put v]) h.ty h.calls h.mix h.fnc h.body h.nt (Nat.le_of_ble_eq_true hn) he).of5 (p.le hx) (p'.le hy) (p''.le hz) (p3.le hu) (p4.le hv)).less hle, h.has⟩
    · cases hd
  · cases hd
end Go.Proofs.YtfebndgmmekmgaaGreatDoor.AI
namespace Go.Proofs.YtfebndgmmekmgaaGreatDoor.M
open Go Go.Proofs.YtfebndgmmekmgaaGreatDoor.AI

def wv (x : Bool × List Int) : Int := zs x.1 (M6.val x.2)
/-- In form. -/
def Wok (x : Bool × List Int) : Prop := M6.Nrm x.2 ∧ (x.1 = true → M6.val x.2 ≠ 0) ∧ x.2.length ≤ 8192
def wD (z : Int) : D := .agg [.sc (.bool (isNeg z)), .ints .u64 (M6.dg z.natAbs)]
/-- Does it fit? -/
def fit (n : Nat) : Bool := decide (bl n ≤ 524288)
theorem wv_abs (x : Bool × List Int) : (wv x).natAbs = M6.val x.2 := zs_abs _ _
theorem wv_neg {x : Bool × List Int} (h : x.1 = true) : wv x = -(M6.val x.2 : Int) := by unfold wv zs; rw [h]; rfl
theorem wv_pos {x : Bool × List Int} (h : x.1 = false) : wv x = (M6.val x.2 : Int) := by unfold wv zs; rw [h]; rfl
theorem Wok.cells {x : Bool × List Int} (h : Wok x) : isNeg (wv x) = x.1 ∧ M6.dg (wv x).natAbs = x.2 := by
  obtain ⟨h1, h2, h3⟩ := h
  unfold wv
  rw [zs_neg, zs_abs, ← h1]
  refine ⟨?_, rfl⟩
  cases hx : x.1 with
  | false => rfl
  | true => rw [decide_eq_true (h2 hx)]; rfl
theorem Wok.len {x : Bool × List Int} (h : Wok x) : x.2.length ≤ 8192 := h.2.2
theorem wD_zs (b : Bool) (n : Nat) : wD (zs b n) = .agg [.sc (.bool (b && decide (n ≠ 0))), .ints .u64 (M6.dg n)] := by
  unfold wD
  rw [zs_neg, zs_abs]
theorem wD_wv {x : Bool × List Int} (h : Wok x) : wD (wv x) = .agg [.sc (.bool x.1), .ints .u64 x.2] := by
  unfold wD
  rw [h.cells.1, h.cells.2]
theorem wv_wD (z : Int) : wv (isNeg z, M6.dg z.natAbs) = z := by
  unfold wv zs
  simp only [M6.val_dg]
  cases h : isNeg z with
  | true => have := isNeg_iff.1 h; simp only [cond_true]; omega
  | false => have := isNeg_false.1 h; simp only [cond_false]; omega
theorem wok_wD {z : Int} (h : bl z.natAbs ≤ 524288) : Wok (isNeg z, M6.dg z.natAbs) := by
  refine ⟨M6.nrm_dg _, fun hn => ?_, len6_bl (k := 8192) (by omega)⟩
  rw [M6.val_dg]
  have := isNeg_iff.1 hn
  omega
theorem bl_of_len6 {n : Nat} (h : (M6.dg n).length ≤ 8192) : bl n ≤ 524288 := by
  have := bl6_len (M6.dig_dg n) h
  rw [M6.val_dg] at this
  omega
theorem Wok.bl {x : Bool × List Int} (h : Wok x) : bl (M6.val x.2) ≤ 524288 := by
  have := bl6_len h.1.dig h.len
  omega
/-- A number and the word for 'too large'. -/
def wE (ok : Bool) (z : Int) : List D := [wD (bif ok then z else 0), .s (.sc (.int .i64 (bif ok then 0 else 5)))]
theorem wE_told (neg ok : Bool) (n : Nat) : [D.agg [.sc (.bool (isNeg (bif (bif ok then (0 : Int) else 5) == 0 then zs neg (M6.val (bif ok then M6.dg n else [])) else 0))), .ints .u64 (M6.dg (bif (bif ok then (0 : Int) else 5) == 0 then zs neg (M6.val (bif ok then M6.dg n else [])) else 0).natAbs)], D.s (.sc (.int .i64 (bif ok then 0 else 5)))] = wE ok (zs neg n) := by
  cases ok with
  | true => rw [cond_true, cond_true, show ((0 : Int) == 0) = true from rfl, cond_true, M6.val_dg]; rfl
  | false => rfl
theorem nrm_bif {ok : Bool} {n : Nat} (h : ok = true → bl n ≤ 524288) : M6.Nrm (bif ok then M6.dg n else []) ∧ (bif ok then M6.dg n else []).length ≤ 1099511627776 := by
  cases ok with
  | true => have := len6_bl (n := n) (k := 8192) (by have := h rfl; omega); exact ⟨M6.nrm_dg _, by rw [cond_true]; omega⟩
  | false => exact ⟨M6.nrm_nil, by simp⟩
theorem len_fit {n : Nat} : decide ((M6.dg n).length ≤ 8192) = fit n := by
  unfold fit
  by_cases h : bl n ≤ 524288
  · rw [decide_eq_true h, decide_eq_true (len6_bl (k := 8192) (by omega))]
  · rw [decide_eq_false h, decide_eq_false (fun hl => h (bl_of_len6 hl))]
theorem fit_le {n : Nat} (h : fit n = true) : bl n ≤ 524288 := of_decide_eq_true h
end Go.Proofs.YtfebndgmmekmgaaGreatDoor.M

/- Numbers m * 2^e, as they lie. No program is in sight. -/
namespace Go.Proofs.YtfebndgmmekmgaaGreatDoor.M
open Go Go.Proofs.YtfebndgmmekmgaaGreatDoor.AI

abbrev Dyt := Bool × List Int × Int
/-- In form. -/
def DyOk (x : Dyt) : Prop := Wok (x.1, x.2.1) ∧ (-1048576 ≤ x.2.2 ∧ x.2.2 ≤ 1048576) ∧ (M6.val x.2.1 = 0 → x.2.2 = 0) ∧ (M6.val x.2.1 ≠ 0 → M6.val x.2.1 % 2 = 1)
def dv (x : Dyt) : Int × Int := (wv (x.1, x.2.1), x.2.2)
def dD (p : Int × Int) : D := .agg [.sc (.bool (isNeg p.1)), .ints .u64 (M6.dg p.1.natAbs), .sc (.int .i64 p.2)]
/-- A number and the word for 'too large'. -/
def dE (ok : Bool) (p : Int × Int) : List D := [dD (bif ok then p else (0, 0)), .s (.sc (.int .i64 (bif ok then 0 else 5)))]
/-- z * 2^e in form. -/
def nrmD (z e : Int) : Int × Int := if z = 0 then (0, 0) else (z / ((2 ^ tz z.natAbs : Nat) : Int), e + (tz z.natAbs : Nat))
/-- Does it lie in the range? -/
def inD (z e : Int) : Bool := decide (z = 0) || (decide (-1048576 ≤ e + (tz z.natAbs : Nat)) && decide (e + (tz z.natAbs : Nat) ≤ 1048576))
theorem DyOk.wok {x : Dyt} (h : DyOk x) : Wok (x.1, x.2.1) := h.1
theorem DyOk.len {x : Dyt} (h : DyOk x) : x.2.1.length ≤ 8192 := h.1.len
theorem DyOk.nrm {x : Dyt} (h : DyOk x) : M6.Nrm x.2.1 := h.1.1
theorem DyOk.dD {x : Dyt} (h : DyOk x) : M.dD (dv x) = .agg [.sc (.bool x.1), .ints .u64 x.2.1, .sc (.int .i64 x.2.2)] := by
  have := h.wok.cells
  unfold M.dD dv
  dsimp only at *
  rw [this.1, this.2]
theorem zs_zero {b : Bool} {n : Nat} : zs b n = 0 ↔ n = 0 := by
  have := zs_abs b n
  omega
theorem zs_div {b : Bool} {n q : Nat} (hq : 0 < q) (h : n % q = 0) : zs b n / (q : Int) = zs b (n / q) := by
  have hd := Nat.div_add_mod n q
  have e : n = q * (n / q) := by omega
  cases b with
  | false =>
    show ((n : Nat) : Int) / (q : Int) = ((n / q : Nat) : Int)
    rw [Int.natCast_ediv]
  | true =>
    show -((n : Nat) : Int) / (q : Int) = -((n / q : Nat) : Int)
    have e1 : -(n : Int) = (q : Int) * (-((n / q : Nat) : Int)) := by rw [Int.mul_neg, ← Int.natCast_mul, ← e]
    rw [e1, Int.mul_ediv_cancel_left _ (by omega)]
theorem tz_bl {n : Nat} (h : n ≠ 0) : tz n < bl n := by
  have h1 := tz_lt h
  exact lt_bl_iff.2 h1
/-- A number in form, not too large. -/
def PIn (p : Int × Int) : Prop := bl p.1.natAbs ≤ 524288 ∧ (-1048576 ≤ p.2 ∧ p.2 ≤ 1048576) ∧ (p.1 = 0 → p.2 = 0) ∧ (p.1 ≠ 0 → p.1 % 2 = 1)
theorem dv_cells (p : Int × Int) : dv (isNeg p.1, M6.dg p.1.natAbs, p.2) = p := by
  unfold dv
  dsimp only
  rw [wv_wD]
theorem dyok_of {p : Int × Int} (h : PIn p) : DyOk (isNeg p.1, M6.dg p.1.natAbs, p.2) := by
  obtain ⟨h1, h2, h3, h4⟩ := h
  refine ⟨wok_wD h1, h2, fun hz => h3 ?_, fun hz => ?_⟩
  · dsimp only at hz
    rw [M6.val_dg] at hz
    omega
  · dsimp only at hz ⊢
    rw [M6.val_dg] at hz ⊢
    have := h4 (by omega)
    omega
theorem DyOk.pin {x : Dyt} (h : DyOk x) : PIn (dv x) := by
  obtain ⟨h1, h2, h3, h4⟩ := h
  have ha := wv_abs (x.1, x.2.1)
  dsimp only at ha
  refine ⟨?_, h2, fun hz => h3 ?_, fun hz => ?_⟩
  · show bl (wv _).natAbs ≤ _
    rw [ha]
    exact h1.bl
  · have hz : wv (x.1, x.2.1) = 0 := hz
    omega
  · have hz : wv (x.1, x.2.1) ≠ 0 := hz
    have := h4 (by omega)
    show wv (x.1, x.2.1) % 2 = 1
    omega
theorem PIn.neg {p : Int × Int} (h : PIn p) : PIn (-p.1, p.2) := by
  obtain ⟨h1, h2, h3, h4⟩ := h
  refine ⟨by dsimp only; rwa [Int.natAbs_neg], h2, fun hz => h3 (by dsimp only at hz; omega), fun hz => ?_⟩
  have := h4 (by dsimp only at hz; omega)
  dsimp only
  omega
/-- Far down it makes no difference how far. -/
theorem far {z : Int} {m n : Nat} (hm : bl z.natAbs ≤ m) (hn : bl z.natAbs ≤ n) : z / ((2 ^ m : Nat) : Int) = z / ((2 ^ n : Nat) : Int) := by
  have one : ∀ k, bl z.natAbs ≤ k → z / ((2 ^ k : Nat) : Int) = if z < 0 then -1 else 0 := by
    intro k hk
    have h := bl_le.1 hk
    have hp : 0 < 2 ^ k := Nat.pow_pos (by decide)
    generalize 2 ^ k = q at *
    by_cases hz : z < 0
    · rw [if_pos hz]
      have e : z = (q + z) + (q : Int) * (-1) := by omega
      rw [e, Int.add_mul_ediv_left _ _ (by omega), Int.ediv_eq_zero_of_lt (by omega) (by omega)]
      rfl
    · rw [if_neg hz, Int.ediv_eq_zero_of_lt (by omega) (by omega)]
  rw [one m hm, one n hn]
theorem div_abs {z : Int} {q : Nat} (hq : 0 < q) : (z / (q : Int)).natAbs ≤ z.natAbs := by
  have h := Int.mul_ediv_add_emod z (q : Int)
  have h1 := Int.emod_nonneg z (show (q : Int) ≠ 0 by omega)
  have h2 := Int.emod_lt_of_pos z (show 0 < (q : Int) by omega)
  by_cases hz : 0 ≤ z
  · have h3 : 0 ≤ z / (q : Int) := Int.ediv_nonneg hz (by omega)
    have h4 : z / (q : Int) ≤ z := Int.ediv_le_self _ hz
    omega
  · have h3 : z / (q : Int) < 0 := Int.ediv_neg_of_neg_of_pos (by omega) (by omega)
    have h4 : (q : Int) * (z / (q : Int) + 1) ≤ 1 * (z / (q : Int) + 1) := Int.mul_le_mul_of_nonpos_right (by omega) (by omega)
    rw [Int.mul_add] at h4
    omega
end Go.Proofs.YtfebndgmmekmgaaGreatDoor.M

/- gnomon/nat.Form -/
namespace Go.Proofs.YtfebndgmmekmgaaGreatDoor.W
open Go Go.Proofs.YtfebndgmmekmgaaGreatDoor.AI Go.Proofs.YtfebndgmmekmgaaGreatDoor.M
namespace NForm
noncomputable def E : Env := { (base) with nt := 20, own := [], keep := fun k => (tlook [] k).getD [], cut := tlook [] }
noncomputable def cod : Code := (Go.Proofs.Tryz.f105.body).getD .skip
theorem nok : namesOk E cod = true := by kernel_rfl
theorem start (a : List Int) : evalFn E Go.Proofs.Tryz.f105 cod [D.s (S.ints IntKind.u64 a)] = bcase (decide ((↑a.length : Int) ≤ (8192 : Int))) (bcase ((↑a.length : Int) == (0 : Int)) (some [D.s (S.sc (Value.bool true))]) (if (0 : Int) ≤ IntKind.i64.wrap ((↑a.length : Int) - (1 : Int)) ∧ IntKind.i64.wrap ((↑a.length : Int) - (1 : Int)) < (↑a.length : Int) then some [D.s (S.sc (Value.bool (a.getD (IntKind.i64.wrap ((↑a.length : Int) - (1 : Int))).toNat (0 : Int) != (0 : Int))))] else none)) (some [D.s (S.sc (Value.bool false))]) := (evalFn_J rfl nok _).trans (by kernel_rfl)
-- stuck: 0
end NForm
namespace NForm
def formB (a : List Int) : Bool := decide (a.length ≤ 8192) && (a.length == 0 || a.getD (a.length - 1) 0 != 0)
theorem form_of {a : List Int} (h : M6.Nrm a) (hl : a.length ≤ 8192) : formB a = true := by
  unfold formB
  rw [decide_eq_true hl, Bool.true_and]
  by_cases hz : a.length = 0
  · simp [hz]
  · have := M6.getLast_take (a := a) (n := a.length - 1) (by omega)
    rw [show a.length - 1 + 1 = a.length from by omega, List.take_length] at this
    have := h.top this
    have e1 : (a.getD (a.length - 1) 0 != 0) = true := by simpa using this
    rw [e1, Bool.or_true]
noncomputable def sp (a : List Int) : Prop × List D := (a.length ≤ 1099511627776, [.s (.sc (.bool (formB a)))])
theorem spec (a : List Int) (h : (sp a).1) : evalFn E Tryz.f105 cod [(pI .u64).put a] = some (sp a).2 := by
  have hl : a.length ≤ 1099511627776 := h
  refine (start a).trans ?_
  show _ = some [D.s (.sc (.bool (formB a)))]
  unfold formB
  by_cases h1 : a.length ≤ 8192
  · rw [bD_pos (by omega), decide_eq_true h1, Bool.true_and]
    by_cases hz : a.length = 0
    · rw [bE_pos (by omega)]; simp [hz]
    · have e : ((a.length : Int) - 1).toNat = a.length - 1 := by omega
      rw [bE_neg (by omega), wrap_i64 (n := (a.length : Int) - 1) (by omega) (by omega), if_pos (by omega), e]
      simp [hz]
  · rw [bD_neg (by omega), decide_eq_false h1]
    rfl

noncomputable def orc : Orc := orc1 (pI .u64) sp
theorem fnok : FnOk Tryz.prog E 105 Tryz.f105 cod := fnOk ty_ok mixed (callsOk_of _ rfl orcs_nil (ext_ok)) Tryz.func105 rfl rfl rfl
theorem ok : OrcOk Tryz.prog base.glob 105 orc := fnok.ok1 rfl spec
end NForm
end Go.Proofs.YtfebndgmmekmgaaGreatDoor.W

/- gnomon/num.Form -/
namespace Go.Proofs.YtfebndgmmekmgaaGreatDoor.W
open Go Go.Proofs.YtfebndgmmekmgaaGreatDoor.AI Go.Proofs.YtfebndgmmekmgaaGreatDoor.M
namespace MForm
noncomputable def E : Env := { ({ base with C := callsOf [(105, NForm.orc)] }) with nt := 17, own := [], keep := fun k => (tlook [] k).getD [], cut := tlook [] }
noncomputable def cod : Code := (Go.Proofs.Tryz.f60.body).getD .skip
theorem nok : namesOk E cod = true := by kernel_rfl
theorem start (a1 : Bool) (a2 : List Int) : evalFn E Go.Proofs.Tryz.f60 cod [D.agg [S.sc (Value.bool a1), S.ints IntKind.u64 a2]] = gif (a2.length ≤ (1099511627776 : Nat)) (bcase (NForm.formB a2) (bcase a1 (some [D.s (S.sc (Value.bool !(↑a2.length : Int) == (0 : Int)))]) (some [D.s (S.sc (Value.bool true))])) (some [D.s (S.sc (Value.bool false))])) := (evalFn_J rfl nok _).trans (by kernel_rfl)
-- stuck: 0
end MForm
namespace MForm
def formI (x : Bool × List Int) : Bool := NForm.formB x.2 && !(x.1 && ((x.2.length : Int) == 0))
theorem form_ok {x : Bool × List Int} (h : Wok x) : formI x = true := by
  unfold formI
  rw [NForm.form_of h.1 h.len, Bool.true_and]
  cases hx : x.1 with
  | false => rfl
  | true =>
    have := h.2.1 hx
    have hz : x.2.length ≠ 0 := fun hl => this ((M6.len_zero h.1).1 hl)
    rw [Bool.true_and, beq_eq_false_iff_ne.2 (by omega)]
    rfl
noncomputable def sp (x : Bool × List Int) : Prop × List D := (x.2.length ≤ 1099511627776, [.s (.sc (.bool (formI x)))])
theorem spec (x : Bool × List Int) (h : (sp x).1) : evalFn E Tryz.f60 cod [(pG (.pair sB (sI .u64))).put x] = some (sp x).2 := by
  have hl : x.2.length ≤ 1099511627776 := h
  refine (start x.1 x.2).trans ?_
  show _ = some [D.s (.sc (.bool (formI x)))]
  unfold formI
  rw [gP hl]
  cases NForm.formB x.2 with
  | false => rfl
  | true => cases x.1 <;> rfl

noncomputable def orc : Orc := orc1 (pG (.pair sB (sI .u64))) sp
theorem fnok : FnOk Tryz.prog E 60 Tryz.f60 cod := fnOk ty_ok mixed (callsOk_of _ rfl (orcs_cons NForm.ok orcs_nil) (ext_ok)) Tryz.func60 rfl rfl rfl
theorem ok : OrcOk Tryz.prog base.glob 60 orc := fnok.ok1 rfl spec
end MForm
end Go.Proofs.YtfebndgmmekmgaaGreatDoor.W

/- gnomon/dyadic.nought -/
namespace Go.Proofs.YtfebndgmmekmgaaGreatDoor.W
open Go Go.Proofs.YtfebndgmmekmgaaGreatDoor.AI Go.Proofs.YtfebndgmmekmgaaGreatDoor.M
namespace DNought
noncomputable def E : Env := { (base) with nt := 8, own := [], keep := fun k => (tlook [] k).getD [], cut := tlook [] }
noncomputable def cod : Code := (Go.Proofs.Tryz.f54.body).getD .skip
theorem nok : namesOk E cod = true := by kernel_rfl
theorem start (a1 : Bool) (a2 : List Int) (a3 : Int) : evalFn E Go.Proofs.Tryz.f54 cod [D.agg [S.sc (Value.bool a1), S.ints IntKind.u64 a2, S.sc (Value.int IntKind.i64 a3)]] = some [D.s (S.sc (Value.bool ((↑a2.length : Int) == (0 : Int))))] := (evalFn_J rfl nok _).trans (by kernel_rfl)
-- stuck: 0
end DNought
namespace DNought
noncomputable def sp (x : Bool × List Int × Int) : Prop × List D := (True, [.s (.sc (.bool ((x.2.1.length : Int) == 0)))])
theorem spec (x : Bool × List Int × Int) (h : (sp x).1) : evalFn E Tryz.f54 cod [(pG (.pair sB (.pair (sI .u64) (sN .i64)))).put x] = some (sp x).2 := start x.1 x.2.1 x.2.2

noncomputable def orc : Orc := orc1 (pG (.pair sB (.pair (sI .u64) (sN .i64)))) sp
theorem fnok : FnOk Tryz.prog E 54 Tryz.f54 cod := fnOk ty_ok mixed (callsOk_of _ rfl orcs_nil (ext_ok)) Tryz.func54 rfl rfl rfl
theorem ok : OrcOk Tryz.prog base.glob 54 orc := fnok.ok1 rfl spec
end DNought
end Go.Proofs.YtfebndgmmekmgaaGreatDoor.W

/- gnomon/dyadic.Form -/
namespace Go.Proofs.YtfebndgmmekmgaaGreatDoor.W
open Go Go.Proofs.YtfebndgmmekmgaaGreatDoor.AI Go.Proofs.YtfebndgmmekmgaaGreatDoor.M
namespace DForm
noncomputable def E : Env := { ({ base with C := callsOf [(60, MForm.orc), (54, DNought.orc)] }) with nt := 29, own := [], keep := fun k => (tlook [] k).getD [], cut := tlook [(3, [1])] }
noncomputable def cod : Code := (Go.Proofs.Tryz.f53.body).getD .skip
theorem nok : namesOk E cod = true := by kernel_rfl
noncomputable def J3 (b0 : Bool) (xs1 : List Int) (x2 : Int) : Option (List D) := ctO E Go.Proofs.Tryz.f53 cod 3 [(A.v (V.one (L.ptr (0 : Nat) (0 : Nat))), some { e := (28 : Nat), cont := Cont.cells [S.sc (Value.bool b0), S.ints IntKind.u64 xs1, S.sc (Value.int IntKind.i64 x2)] })]
theorem start (a1 : Bool) (a2 : List Int) (a3 : Int) : evalFn E Go.Proofs.Tryz.f53 cod [D.agg [S.sc (Value.bool a1), S.ints IntKind.u64 a2, S.sc (Value.int IntKind.i64 a3)]] = gif ((a1, a2).snd.length ≤ (1099511627776 : Nat)) (bcase (!MForm.formI (a1, a2)) (some [D.s (S.sc (Value.bool false))]) (bcase (decide (a3 < (-1048576 : Int))) (some [D.s (S.sc (Value.bool false))]) (bcase (decide ((1048576 : Int) < a3)) (some [D.s (S.sc (Value.bool false))]) (DForm.J3 a1 a2 a3)))) := (evalFn_J rfl nok _).trans (by kernel_rfl)
theorem J3_eq (b0 : Bool) (xs1 : List Int) (x2 : Int) : J3 b0 xs1 x2 = gif True (bcase ((↑(xs1, x2).fst.length : Int) == (0 : Int)) (some [D.s (S.sc (Value.bool (x2 == (0 : Int))))]) (if (0 : Int) ≤ (0 : Int) ∧ (0 : Int) < (↑xs1.length : Int) then some [D.s (S.sc (Value.bool (bitsI BinOp.and IntKind.u64 (xs1.getD (0 : Nat) (0 : Int)) (1 : Int) == (1 : Int))))] else none)) := (cutAt_J rfl nok 3 _).trans (by kernel_rfl)
-- stuck: 0
end DForm
namespace DForm
noncomputable def sp (x : Bool × List Int × Int) : Prop × List D := (DyOk x, [.s (.sc (.bool true))])
theorem odd_dig {a : List Int} (h : M6.Nrm a) (hv : M6.val a % 2 = 1) : bitsI .and .u64 (a.getD 0 0) 1 = 1 := by
  have g := h.dig.get 0
  rw [and64 g.1 g.2 (by omega) (by omega)]
  have e : M6.val a = (a.getD 0 0).toNat + 18446744073709551616 * M6.val (a.drop 1) := by
    have := M6.val_drop_one (a := a) 0
    rwa [List.drop_zero] at this
  have e1 : (a.getD 0 0).toNat &&& (1 : Int).toNat = (a.getD 0 0).toNat % 2 := Nat.and_one_is_mod _
  rw [e1]
  omega
theorem spec (x : Bool × List Int × Int) (h : (sp x).1) : evalFn E Tryz.f53 cod [(pG (.pair sB (.pair (sI .u64) (sN .i64)))).put x] = some (sp x).2 := by
  have h : DyOk x := h
  have hl := h.len
  have hf := MForm.form_ok h.wok
  have hn := h.nrm
  obtain ⟨b, a, e⟩ := x
  obtain ⟨hw, he, h0, h1⟩ := h
  refine (start b a e).trans ?_
  dsimp only at *
  unfold sp
  dsimp only
  rw [gP (by omega), hf, Bool.not_true, bF, bD_neg (by omega), bD_neg (by omega), J3_eq, gP trivial]
  dsimp only
  by_cases hz : a.length = 0
  · rw [bE_pos (by omega), h0 ((M6.len_zero hn).1 hz)]
    rfl
  · rw [bE_neg (by omega), if_pos ⟨by omega, by omega⟩, odd_dig hn (h1 (fun hv => hz ((M6.len_zero hn).2 hv)))]
    rfl

noncomputable def orc : Orc := orc1 (pG (.pair sB (.pair (sI .u64) (sN .i64)))) sp
theorem fnok : FnOk Tryz.prog E 53 Tryz.f53 cod := fnOk ty_ok mixed (callsOk_of _ rfl (orcs_cons MForm.ok (orcs_cons DNought.ok orcs_nil)) (ext_ok)) Tryz.func53 rfl rfl rfl
theorem ok : OrcOk Tryz.prog base.glob 53 orc := fnok.ok1 rfl spec
end DForm
end Go.Proofs.YtfebndgmmekmgaaGreatDoor.W

/- slices.Clone[[]uint64,uint64] -/
namespace Go.Proofs.YtfebndgmmekmgaaGreatDoor.W
open Go Go.Proofs.YtfebndgmmekmgaaGreatDoor.AI Go.Proofs.YtfebndgmmekmgaaGreatDoor.M
namespace Clone
noncomputable def E : Env := { (base) with nt := 8, own := [], keep := fun k => (tlook [] k).getD [], cut := tlook [] }
noncomputable def cod : Code := (Go.Proofs.Tryz.f99.body).getD .skip
theorem nok : namesOk E cod = true := by kernel_rfl
theorem start (a : List Int) : evalFn E Go.Proofs.Tryz.f99 cod [D.s (S.ints IntKind.u64 a)] = none := (evalFn_J rfl nok _).trans (by kernel_rfl)
-- stuck: 0
end Clone
namespace Clone
def laysClone_ren : Go.Shelf.Ren := ⟨fun | 41 => 99 | n => n, fun | 22 => 22 | 23 => 24 | 4 => 4 | n => n, fun | n => n⟩
theorem laysClone : Go.Proofs.SlLaysE0.n41 Tryz.prog laysClone_ren := {
  mixed := by kernel_rfl
  f41 := ⟨Tryz.f99.name, by decide, Tryz.func99.trans (congrArg some (by kernel_rfl))⟩
  t4 := Tryz.underlying4
  a4 := Tryz.isAgg4
  z4 := Tryz.sizeOf4
  v4 := Tryz.zeroValue4
  t22 := Tryz.underlying22
  a22 := Tryz.isAgg22
  z22 := Tryz.sizeOf22
  v22 := Tryz.zeroValue22 }
noncomputable def sp (a : List Int) : Prop × List D := (a.length ≤ 1099511627776, [.s (.ints .u64 a)])
section
open Go.Shelf Go.RowKit Go.Lib
set_option maxHeartbeats 2000000
set_option maxRecDepth 100000
/-- The same at a slice of no length, whatever its address. -/
theorem zero {P : Program} {ρ : Ren} (L : SlLaysE0.n41 P ρ) (i0 : TypeInfo) (z : Value) (bytes : Nat) (hi : P.info? (ρ.t 23) = some i0) (hz0 : i0.zero = some z) (hz1 : i0.size = 1) (hz2 : i0.bytes = bytes) (hzs : z.cells.size = 1)
    (z23 : ∀ w, (Go.sizeOf (ρ.t 23)).run P w = .ok 1 w) (a : Addr) (c : Nat) (w : World) :
    Calls P (ρ.f 41) #[.slice (some a) 0 c] w fun e w' => ∃ v', e = .returned v' ∧ w'.ownsRow w.heap.size (ρ.t 23) 1 v' 0 [] ∧ Below w.heap.size w w' := by
  have mixed := L.mixed; have t4 := L.t4; have a4 := L.a4; have z4 := L.z4; have v4 := L.v4; have t22 := L.t22; have a22 := L.a22; have z22 := L.z22; have v22 := L.v22
  have q22 : ∀ (w : World) (a : Option Addr) (n c n' c' : Nat), (binOp .eql (ρ.t 22) (.slice a n c) (.slice none n' c')).run P w = .ok (.bool a.isNone) w := fun w a n c n' c' => Lib.run_eql_slice_nil w _ _ a n c n' c' L.t22
  have u22 : ∀ w, Sem.run P (underlying (ρ.t 22)) w = .ok (TypeDesc.slice (ρ.t 23)) w := run_underlying t22
  obtain ⟨_, _, FG⟩ := L.f41
  go_enter FG, SlBodyN.n41_ntmps ρ
  go_wp2_with (at_builtin; refine wpList_append_own _ rfl _ _ (ρ.t 22) rfl w.heap.size (ρ.t 23) i0 z 1 bytes t22 hi hz0 hz1 hz2 hzs (by decide) _ _ _ rfl (World.ownsRow_made w #[] 0 (Nat.le_refl _) (Nat.zero_le _) (by simp)) a 0 c [] rfl rfl (by intro j u hj; simp at hj) (by intro u hu; cases hu) (by unfold maxLen; omega) (by omega) (by simp) ?_)
  intro v' w1 hown hgrow hnil
  go_wp2
  go_ret
  exact ⟨v', rfl, by simpa using hown, ((Below.refl _ w).alloc (Nat.le_refl _) _).grown hgrow (by simp) (by intro k hk; simp [Value.ownBlock] at hk; omega)⟩
end
/-- What a row of one's own is worth. -/
theorem own_ints {X : Nat → Prop} {w : World} {base : Nat} {e : TypeId} {v : Value} {a : List Int} (hX : ∀ b, X b → b < base) (h : w.ownsRow base e 1 v a.length (a.map (Value.int .u64))) : RepS X w (.ints .u64 a) v := by
  obtain ⟨_, ⟨rfl, h0⟩ | ⟨g, cap, cur, rfl, hg, hb, hn, hm, hs, ht⟩⟩ := h
  · have : a = [] := List.length_eq_zero_iff.1 h0
    subst this
    exact ⟨none, 0, rfl, Nat.le_refl _, fun i n hn => by simp at hn⟩
  · refine ⟨some ⟨g, 0, none⟩, cap, rfl, hn, fun i n hi => ⟨g, 0, rfl, ?_, fun hx => ?_, ?_⟩⟩
    · exact (Array.getElem?_eq_some_iff.1 hb).1
    · have := hX g hx; omega
    · have hlt : i < a.length := (List.getElem?_eq_some_iff.1 hi).1
      have e1 : (cur.toList.take (a.length * 1))[i]? = some (Value.int .u64 n) := by
        rw [ht, List.getElem?_map, hi]
        rfl
      rw [List.getElem?_take, if_pos (by omega)] at e1
      simp only [World.cell?, hb, Nat.zero_add]
      simpa using e1
theorem one_res {Y : Nat → Prop} {base : Nat} {w : World} {d : D} {v : Value} (hd : isOwn d = false) (h : RepD Y w d v) : RepRes Y base w [d] [v] := by
  refine ⟨fun _ => 0, rfl, fun i j d1 d2 h1 h2 o1 _ _ => ?_, fun i d1 v1 h1 h2 => ?_⟩
  · have : d1 = d := by
      match i with
      | 0 => simpa using h1.symm
      | i + 1 => simp at h1
    rw [this, hd] at o1
    cases o1
  · have h3 : d1 = d ∧ v1 = v := by
      match i with
      | 0 => exact ⟨by simpa using h1.symm, by simpa using h2.symm⟩
      | i + 1 => simp at h1
    obtain ⟨rfl, rfl⟩ := h3
    have e : (fun b => Y b ∨ ∃ (j : Nat) (d' : D), [d1][j]? = some d' ∧ isOwn d' = true ∧ (fun _ : Nat => 0) j = b) = Y := by
      funext b
      refine propext ⟨fun hh => ?_, .inl⟩
      rcases hh with hh | ⟨j, d', h4, h5, _⟩
      · exact hh
      · match j with
        | 0 =>
          have : d' = d1 := by simpa using h4.symm
          rw [this, hd] at h5
          cases h5
        | j + 1 => simp at h4
    rw [e]
    cases d1 with
    | own => cases hd
    | _ => exact h
theorem contract (a : List Int) (hl : a.length ≤ 1099511627776) : Contract Tryz.prog base.glob 99 [(pI .u64).put a] [.s (.ints .u64 a)] := by
  intro Y w vs hY hG hlen hargs
  obtain ⟨v, rfl⟩ : ∃ v, vs = [v] := by
    match vs, hlen with
    | [v], _ => exact ⟨v, rfl⟩
  obtain ⟨A, c, rfl, hc, hcells⟩ : RepS Y w (.ints .u64 a) v := hargs 0 _ _ rfl rfl
  have t1 := ty_ok tU64 _ rfl
  obtain ⟨i0, hi, hs, hbt, z, hz, hzc⟩ := t1.i
  have z23 := fun w => t1.run_sizeOf (w := w)
  have fin : ∀ (e : Ending) (w' : World), (∃ v', e = .returned v' ∧ w'.ownsRow w.heap.size tU64 1 v' a.length (a.map (Value.int .u64)) ∧ RowKit.Below w.heap.size w w') → ∃ vs', e = .returned (resV vs') ∧ RowKit.Below w.heap.size w w' ∧ RepRes Y w.heap.size w' [.s (.ints .u64 a)] vs' := by
    rintro e w' ⟨v', rfl, ho, hb⟩
    exact ⟨[v'], rfl, hb, one_res rfl (own_ints hY ho)⟩
  have hzs : z.cells.size = 1 := by
    have := congrArg List.length hzc
    simpa using this
  cases A with
  | none =>
    have ha : a = [] := by
      cases a with
      | nil => rfl
      | cons x r => obtain ⟨b, off, h1, _⟩ := hcells 0 x rfl; cases h1
    subst ha
    refine (AnyE.slices_Clone_nil laysClone 0 c w).mono ?_
    rintro e w' ⟨rfl, rfl⟩
    exact fin _ _ ⟨_, rfl, ⟨rfl, .inl ⟨rfl, rfl⟩⟩, RowKit.Below.refl _ _⟩
  | some ad =>
    cases a with
    | nil =>
      refine (zero laysClone i0 z _ hi hz hs hbt hzs z23 ad c w).mono ?_
      rintro e w' ⟨v', rfl, ho, hb⟩
      exact fin _ _ ⟨v', rfl, ho, hb⟩
    | cons x r =>
      obtain ⟨b, off, h1, _⟩ := hcells 0 x rfl
      cases h1
      refine (AnyE.slices_Clone laysClone i0 z 1 _ hi hz hs hbt hzs (by decide) z23 b off (x :: r).length c ((x :: r).map (Value.int .u64)) w (by simp) (by unfold maxLen; omega) (by show (x :: r).length * 8 ≤ _; omega) ?_ ?_).mono ?_
      · intro j u hj
        rw [List.getElem?_map] at hj
        obtain ⟨n, hn, rfl⟩ := Option.map_eq_some_iff.1 hj
        obtain ⟨b', off', h2, _, _, h3⟩ := hcells j n hn
        cases h2
        exact h3
      · intro u hu
        obtain ⟨n, _, rfl⟩ := List.mem_map.1 hu
        rfl
      · rintro e w' ⟨v', rfl, ho, _, hb⟩
        exact fin _ _ ⟨v', rfl, ho, hb⟩
theorem hasb : HasBody Tryz.prog 99 := hasBody_of Tryz.func99 rfl rfl
noncomputable def orc : Orc := orc1 (pI .u64) sp
theorem ok : OrcOk Tryz.prog base.glob 99 orc := by
  intro ds g rs hd hg
  unfold orc orc1 at hd
  split at hd
  · split at hd
    · rename_i x hx
      have hd := Option.some.inj hd
      have e1 : g = (sp x).1 := by rw [hd]
      have e2 : rs = (sp x).2 := by rw [hd]
      subst e1; subst e2
      exact ⟨(contract x hg).of1 ((pI .u64).le hx), hasb⟩
    · cases hd
  · cases hd

end Clone
end Go.Proofs.YtfebndgmmekmgaaGreatDoor.W

/- gnomon/dyadic.twin -/
namespace Go.Proofs.YtfebndgmmekmgaaGreatDoor.W
open Go Go.Proofs.YtfebndgmmekmgaaGreatDoor.AI Go.Proofs.YtfebndgmmekmgaaGreatDoor.M
namespace DTwin
noncomputable def E : Env := { ({ base with C := callsOf [(99, Clone.orc)] }) with nt := 10, own := [], keep := fun k => (tlook [] k).getD [], cut := tlook [] }
noncomputable def cod : Code := (Go.Proofs.Tryz.f55.body).getD .skip
theorem nok : namesOk E cod = true := by kernel_rfl
theorem start (a1 : Bool) (a2 : List Int) (a3 : Int) : evalFn E Go.Proofs.Tryz.f55 cod [D.agg [S.sc (Value.bool a1), S.ints IntKind.u64 a2, S.sc (Value.int IntKind.i64 a3)]] = gif (a2.length ≤ (1099511627776 : Nat)) (some [D.agg [S.sc (Value.bool a1), S.ints IntKind.u64 a2, S.sc (Value.int IntKind.i64 a3)]]) := (evalFn_J rfl nok _).trans (by kernel_rfl)
-- stuck: 0
end DTwin
namespace DTwin
noncomputable def sp (x : Bool × List Int × Int) : Prop × List D := (x.2.1.length ≤ 1099511627776, [.agg [.sc (.bool x.1), .ints .u64 x.2.1, .sc (.int .i64 x.2.2)]])
theorem spec (x : Bool × List Int × Int) (h : (sp x).1) : evalFn E Tryz.f55 cod [(pG (.pair sB (.pair (sI .u64) (sN .i64)))).put x] = some (sp x).2 := (start x.1 x.2.1 x.2.2).trans (gP h)

noncomputable def orc : Orc := orc1 (pG (.pair sB (.pair (sI .u64) (sN .i64)))) sp
theorem fnok : FnOk Tryz.prog E 55 Tryz.f55 cod := fnOk ty_ok mixed (callsOk_of _ rfl (orcs_cons Clone.ok orcs_nil) (ext_ok)) Tryz.func55 rfl rfl rfl
theorem ok : OrcOk Tryz.prog base.glob 55 orc := fnok.ok1 rfl spec
end DTwin
end Go.Proofs.YtfebndgmmekmgaaGreatDoor.W

/- gnomon/nat.trim -/
namespace Go.Proofs.YtfebndgmmekmgaaGreatDoor.W
open Go Go.Proofs.YtfebndgmmekmgaaGreatDoor.AI Go.Proofs.YtfebndgmmekmgaaGreatDoor.M
namespace NTrim
noncomputable def E : Env := { (base) with nt := 21, own := [], keep := fun k => (tlook [(2, [0, 3])] k).getD [], cut := tlook [] }
noncomputable def cod : Code := (Go.Proofs.Tryz.f147.body).getD .skip
theorem nok : namesOk E cod = true := by kernel_rfl
noncomputable def L2 (xs0 : List Int) (x1 : Int) : Option (List D) := lpO E Go.Proofs.Tryz.f147 cod 2 [(A.v (V.one (L.s (S.ints IntKind.u64 xs0))), none), (A.v (V.one (L.s (S.sc (Value.int IntKind.i64 x1)))), none)]
theorem start (a : List Int) : evalFn E Go.Proofs.Tryz.f147 cod [D.s (S.ints IntKind.u64 a)] = NTrim.L2 a (↑a.length : Int) := (evalFn_J rfl nok _).trans (by kernel_rfl)
theorem L2_eq (xs0 : List Int) (x1 : Int) : L2 xs0 x1 = bcase (decide ((0 : Int) < x1)) (if (0 : Int) ≤ IntKind.i64.wrap (x1 - (1 : Int)) ∧ IntKind.i64.wrap (x1 - (1 : Int)) < (↑xs0.length : Int) then bcase (xs0.getD (IntKind.i64.wrap (x1 - (1 : Int))).toNat (0 : Int) == (0 : Int)) (NTrim.L2 xs0 (IntKind.i64.wrap (x1 - (1 : Int)))) (if (0 : Int) ≤ (0 : Int) ∧ (0 : Int) ≤ x1 ∧ x1 ≤ (↑xs0.length : Int) then some [D.s (S.ints IntKind.u64 (List.drop (0 : Nat) (List.take x1.toNat xs0)))] else none) else none) (if (0 : Int) ≤ (0 : Int) ∧ (0 : Int) ≤ x1 ∧ x1 ≤ (↑xs0.length : Int) then some [D.s (S.ints IntKind.u64 (List.drop (0 : Nat) (List.take x1.toNat xs0)))] else none) := (loopAt_J rfl nok 2 _).trans (by kernel_rfl)
-- stuck: 0
end NTrim
namespace NTrim
noncomputable def sp (a : List Int) : Prop × List D := (M6.Dig a ∧ a.length ≤ 1099511627776, [.s (.ints .u64 (M6.dg (M6.val a)))])
theorem L {xs : List Int} (hd : M6.Dig xs) (hl : xs.length ≤ 4398046511104) : ∀ n : Nat, n ≤ xs.length → L2 xs n = some [D.s (.ints .u64 (M6.dg (M6.val (xs.take n))))]
  | 0, h => by
    rw [L2_eq, bD_neg (by omega), if_pos (by omega)]
    simp [M6.val, M6.dg_zero]
  | n + 1, h => by
    rw [L2_eq]
    have e : IntKind.i64.wrap (((n + 1 : Nat) : Int) - 1) = (n : Int) := by rw [wrap_i64 (by omega) (by omega)]; omega
    rw [e, bD_pos (by omega), if_pos (by omega), Int.toNat_natCast]
    by_cases hz : xs.getD n 0 = 0
    · rw [bE_pos hz, L hd hl n (by omega), M6.val_take_succ (by omega), hz]
      simp
    · rw [bE_neg hz, if_pos (by omega), Int.toNat_natCast, List.drop_zero]
      have : M6.Nrm (xs.take (n + 1)) := M6.nrm_of (hd.take _) fun d hg => by
        rw [M6.getLast_take (by omega)] at hg
        cases hg
        exact hz
      rw [← this]
theorem spec (a : List Int) (h : (sp a).1) : evalFn E Tryz.f147 cod [(pI .u64).put a] = some (sp a).2 := by
  obtain ⟨hd, hl⟩ := h
  refine (start a).trans ?_
  rw [L hd (by omega) a.length (Nat.le_refl _), List.take_length]
  rfl

noncomputable def orc : Orc := orc1 (pI .u64) sp
theorem fnok : FnOk Tryz.prog E 147 Tryz.f147 cod := fnOk ty_ok mixed (callsOk_of _ rfl orcs_nil (ext_ok)) Tryz.func147 rfl rfl rfl
theorem ok : OrcOk Tryz.prog base.glob 147 orc := fnok.ok1 rfl spec
end NTrim
end Go.Proofs.YtfebndgmmekmgaaGreatDoor.W

/- gnomon/nat.told -/
namespace Go.Proofs.YtfebndgmmekmgaaGreatDoor.W
open Go Go.Proofs.YtfebndgmmekmgaaGreatDoor.AI Go.Proofs.YtfebndgmmekmgaaGreatDoor.M
namespace NTold
noncomputable def E : Env := { ({ base with C := callsOf [(147, NTrim.orc)] }) with nt := 10, own := [5], keep := fun k => (tlook [] k).getD [], cut := tlook [] }
noncomputable def cod : Code := (Go.Proofs.Tryz.f106.body).getD .skip
theorem nok : namesOk E cod = true := by kernel_rfl
theorem start (a : List Int) : evalFn E Go.Proofs.Tryz.f106 cod [D.s (S.ints IntKind.u64 a)] = gif (M6.Dig a ∧ a.length ≤ (1099511627776 : Nat)) (bcase (decide ((8192 : Int) < (↑(M6.dg (M6.val a)).length : Int))) (some [D.s (S.sc (Value.slice none (0 : Nat) (0 : Nat))), D.s (S.sc (Value.int IntKind.i64 (5 : Int)))]) (some [D.s (S.ints IntKind.u64 (M6.dg (M6.val a))), D.s (S.sc (Value.int IntKind.i64 (0 : Int)))])) := (evalFn_J rfl nok _).trans (by kernel_rfl)
-- stuck: 0
end NTold
namespace NTold
/-- Does a number fit the limit of limbs? -/
def okN (n : Nat) : Bool := decide ((M6.dg n).length ≤ 8192)
noncomputable def sp (a : List Int) : Prop × List D := (M6.Dig a ∧ a.length ≤ 1099511627776, [.s (.ints .u64 (bif okN (M6.val a) then M6.dg (M6.val a) else [])), .s (.sc (.int .i64 (bif okN (M6.val a) then 0 else 5)))])
theorem spec (a : List Int) (h : (sp a).1) : ∃ rs, evalFn E Tryz.f106 cod [(pI .u64).put a] = some rs ∧ RsLe rs (sp a).2 := by
  have hl := M6.len_val h.1
  have h2 := h.2
  have e := (start a).trans (gP h)
  unfold sp okN
  simp only
  by_cases hc : (M6.dg (M6.val a)).length ≤ 8192
  · rw [bD_neg (by omega)] at e
    rw [decide_eq_true hc]
    exact ⟨_, e, RsLe.refl _⟩
  · rw [bD_pos (by omega)] at e
    rw [decide_eq_false hc]
    exact ⟨_, e, .cons (RLe.nil _) (RsLe.refl _)⟩

noncomputable def orc : Orc := orc1 (pI .u64) sp
theorem fnok : FnOk Tryz.prog E 106 Tryz.f106 cod := fnOk ty_ok mixed (callsOk_of _ rfl (orcs_cons NTrim.ok orcs_nil) (ext_ok)) Tryz.func106 rfl rfl rfl
theorem ok : OrcOk Tryz.prog base.glob 106 orc := fnok.wk1 rfl spec
end NTold
end Go.Proofs.YtfebndgmmekmgaaGreatDoor.W

/- math/bits.Len64 -/
namespace Go.Proofs.YtfebndgmmekmgaaGreatDoor.W
open Go Go.Proofs.YtfebndgmmekmgaaGreatDoor.AI Go.Proofs.YtfebndgmmekmgaaGreatDoor.M
namespace Len64
noncomputable def E : Env := { (base) with nt := 25, own := [], keep := fun k => (tlook [] k).getD [], cut := tlook [(4, [0, 2]), (7, [0, 2])] }
noncomputable def cod : Code := (Go.Proofs.Tryz.f146.body).getD .skip
theorem nok : namesOk E cod = true := by kernel_rfl
noncomputable def J4 (x0 : Int) (x1 : Int) : Option (List D) := ctO E Go.Proofs.Tryz.f146 cod 4 [(A.v (V.one (L.s (S.sc (Value.int IntKind.u64 x0)))), none), (A.v (V.one (L.s (S.sc (Value.int IntKind.i64 x1)))), none)]
noncomputable def J7 (x0 : Int) (x1 : Int) : Option (List D) := ctO E Go.Proofs.Tryz.f146 cod 7 [(A.v (V.one (L.s (S.sc (Value.int IntKind.u64 x0)))), none), (A.v (V.one (L.s (S.sc (Value.int IntKind.i64 x1)))), none)]
theorem start (a : Int) : evalFn E Go.Proofs.Tryz.f146 cod [D.s (S.sc (Value.int IntKind.u64 a))] = bcase (decide ((4294967296 : Int) ≤ a)) (Len64.J4 (a / (4294967296 : Int)) (32 : Int)) (Len64.J4 a (0 : Int)) := (evalFn_J rfl nok _).trans (by kernel_rfl)
theorem J4_eq (x0 : Int) (x1 : Int) : J4 x0 x1 = bcase (decide ((65536 : Int) ≤ x0)) (Len64.J7 (x0 / (65536 : Int)) (IntKind.i64.wrap (x1 + (16 : Int)))) (Len64.J7 x0 x1) := (cutAt_J rfl nok 4 _).trans (by kernel_rfl)
theorem J7_eq (x0 : Int) (x1 : Int) : J7 x0 x1 = bcase (decide ((256 : Int) ≤ x0))
  (if (0 : Int) ≤ IntKind.u8.wrap (x0 / (256 : Int)) ∧ IntKind.u8.wrap (x0 / (256 : Int)) < (256 : Int) then
    some
      [D.s
          (S.sc
            (Value.int IntKind.i64
              (IntKind.i64.wrap
                (IntKind.i64.wrap (x1 + (8 : Int)) +
                  IntKind.i64.wrap
                    (strAt
                      {
                        data :=
                          ((0 : UInt8) ::
                              ((1 : UInt8) ::
                                    [(2 : UInt8), { toBitVec := BitVec.ofNat (8 : Nat) (2 : Nat) }, (3 : UInt8), { toBitVec := BitVec.ofNat (8 : Nat) (3 : Nat) }, (3 : UInt8), { toBitVec := BitVec.ofNat (8 : Nat) (3 : Nat) }, (4 : UInt8), { toBitVec := BitVec.ofNat (8 : Nat) (4 : Nat) }, (4 : UInt8), { toBitVec := BitVec.ofNat (8 : Nat) (4 : Nat) }, (4 : UInt8), { toBitVec := BitVec.ofNat (8 : Nat) (4 : Nat) }, (4 : UInt8), { toBitVec := BitVec.ofNat (8 : Nat) (4 : Nat) }, (5 : UInt8), { toBitVec := BitVec.ofNat (8 : Nat) (5 : Nat) }, (5 : UInt8), { toBitVec := BitVec.ofNat (8 : Nat) (5 : Nat) }, (5 : UInt8), { toBitVec := BitVec.ofNat (8 : Nat) (5 : Nat) }, (5 : UInt8), { toBitVec := BitVec.ofNat (8 : Nat) (5 : Nat) }, (5 : UInt8), { toBitVec := BitVec.ofNat (8 : Nat) (5 : Nat) }, (5 : UInt8), { toBitVec := BitVec.ofNat (8 : Nat) (5 : Nat) }, (5 : UInt8), { toBitVec := BitVec.ofNat (8 : Nat) (5 : Nat) }, (5 : UInt8), { toBitVec := BitVec.ofNat (8 : Nat) (5 : Nat) }, (6 : UInt8), { toBitVec := BitVec.ofNat (8 : Nat) (6 : Nat) }, (6 : UInt8), { toBitVec := BitVec.ofNat (8 : Nat) (6 : Nat) }, (6 : UInt8), { toBitVec := BitVec.ofNat (8 : Nat) (6 : Nat) }, (6 : UInt8), { toBitVec := BitVec.ofNat (8 : Nat) (6 : Nat) }, (6 : UInt8), { toBitVec := BitVec.ofNat (8 : Nat) (6 : Nat) }, (6 : UInt8), { toBitVec := BitVec.ofNat (8 : Nat) (6 : Nat) }, (6 : UInt8), { toBitVec := BitVec.ofNat (8 : Nat) (6 : Nat) }, (6 : UInt8), { toBitVec := BitVec.ofNat (8 : Nat) (6 : Nat) }, (6 : UInt8), { toBitVec := BitVec.ofNat (8 : Nat) (6 : Nat) }, (6 : UInt8), { toBitVec := BitVec.ofNat (8 : Nat) (6 : Nat) }, (6 : UInt8), { toBitVec := BitVec.ofNat (8 : Nat) (6 : Nat) }, (6 : UInt8), { toBitVec := BitVec.ofNat (8 : Nat) (6 : Nat) }, (6 : UInt8), { toBitVec := BitVec.ofNat (8 : Nat) (6 : Nat) }, (6 : UInt8), { toBitVec := BitVec.ofNat (8 : Nat) (6 : Nat) }, (6 : UInt8), { toBitVec := BitVec.ofNat (8 : Nat) (6 : Nat) }, (6 : UInt8), { toBitVec := BitVec.ofNat (8 : Nat) (6 : Nat) }].append
                                      [(7 : UInt8), { toBitVec := BitVec.ofNat (8 : Nat) (7 : Nat) }, (7 : UInt8), { toBitVec := BitVec.ofNat (8 : Nat) (7 : Nat) }, (7 : UInt8), { toBitVec := BitVec.ofNat (8 : Nat) (7 : Nat) }, (7 : UInt8), { toBitVec := BitVec.ofNat (8 : Nat) (7 : Nat) }, (7 : UInt8), { toBitVec := BitVec.ofNat (8 : Nat) (7 : Nat) }, (7 : UInt8), { toBitVec := BitVec.ofNat (8 : Nat) (7 : Nat) }, (7 : UInt8), { toBitVec := BitVec.ofNat (8 : Nat) (7 : Nat) }, (7 : UInt8), { toBitVec := BitVec.ofNat (8 : Nat) (7 : Nat) }, (7 : UInt8), { toBitVec := BitVec.ofNat (8 : Nat) (7 : Nat) }, (7 : UInt8), { toBitVec := BitVec.ofNat (8 : Nat) (7 : Nat) }, (7 : UInt8), { toBitVec := BitVec.ofNat (8 : Nat) (7 : Nat) }, (7 : UInt8), { toBitVec := BitVec.ofNat (8 : Nat) (7 : Nat) }, (7 : UInt8), { toBitVec := BitVec.ofNat (8 : Nat) (7 : Nat) }, (7 : UInt8), { toBitVec := BitVec.ofNat (8 : Nat) (7 : Nat) }, (7 : UInt8), { toBitVec := BitVec.ofNat (8 : Nat) (7 : Nat) }, (7 : UInt8), { toBitVec := BitVec.ofNat (8 : Nat) (7 : Nat) }, (7 : UInt8), { toBitVec := BitVec.ofNat (8 : Nat) (7 : Nat) }, (7 : UInt8), { toBitVec := BitVec.ofNat (8 : Nat) (7 : Nat) }, (7 : UInt8), { toBitVec := BitVec.ofNat (8 : Nat) (7 : Nat) }, (7 : UInt8), { toBitVec := BitVec.ofNat (8 : Nat) (7 : Nat) }, (7 : UInt8), { toBitVec := BitVec.ofNat (8 : Nat) (7 : Nat) }, (7 : UInt8), { toBitVec := BitVec.ofNat (8 : Nat) (7 : Nat) }, (7 : UInt8), { toBitVec := BitVec.ofNat (8 : Nat) (7 : Nat) }, (7 : UInt8), { toBitVec := BitVec.ofNat (8 : Nat) (7 : Nat) }, (7 : UInt8), { toBitVec := BitVec.ofNat (8 : Nat) (7 : Nat) }, (7 : UInt8), { toBitVec := BitVec.ofNat (8 : Nat) (7 : Nat) }, (7 : UInt8), { toBitVec := BitVec.ofNat (8 : Nat) (7 : Nat) }, (7 : UInt8), { toBitVec := BitVec.ofNat (8 : Nat) (7 : Nat) }, (7 : UInt8), { toBitVec := BitVec.ofNat (8 : Nat) (7 : Nat) }, (7 : UInt8), { toBitVec := BitVec.ofNat (8 : Nat) (7 : Nat) }, (7 : UInt8), { toBitVec := BitVec.ofNat (8 : Nat) (7 : Nat) }, (7 : UInt8), { toBitVec := BitVec.ofNat (8 : Nat) (7 : Nat) }]).append
                                ((8 : UInt8) ::
                                  [(8 : UInt8), { toBitVec := BitVec.ofNat (8 : Nat) (8 : Nat) }, (8 : UInt8), { toBitVec := BitVec.ofNat (8 : Nat) (8 : Nat) }, (8 : UInt8), { toBitVec := BitVec.ofNat (8 : Nat) (8 : Nat) }, (8 : UInt8), { toBitVec := BitVec.ofNat (8 : Nat) (8 : Nat) }, (8 : UInt8), { toBitVec := BitVec.ofNat (8 : Nat) (8 : Nat) }, (8 : UInt8), { toBitVec := BitVec.ofNat (8 : Nat) (8 : Nat) }, (8 : UInt8), { toBitVec := BitVec.ofNat (8 : Nat) (8 : Nat) }, (8 : UInt8), { toBitVec := BitVec.ofNat (8 : Nat) (8 : Nat) }, (8 : UInt8), { toBitVec := BitVec.ofNat (8 : Nat) (8 : Nat) }, (8 : UInt8), { toBitVec := BitVec.ofNat (8 : Nat) (8 : Nat) }, (8 : UInt8), { toBitVec := BitVec.ofNat (8 : Nat) (8 : Nat) }, (8 : UInt8), { toBitVec := BitVec.ofNat (8 : Nat) (8 : Nat) }, (8 : UInt8), { toBitVec := BitVec.ofNat (8 : Nat) (8 : Nat) }, (8 : UInt8), { toBitVec := BitVec.ofNat (8 : Nat) (8 : Nat) }, (8 : UInt8), { toBitVec := BitVec.ofNat (8 : Nat) (8 : Nat) }, (8 : UInt8), { toBitVec := BitVec.ofNat (8 : Nat) (8 : Nat) }, (8 : UInt8), { toBitVec := BitVec.ofNat (8 : Nat) (8 : Nat) }, (8 : UInt8), { toBitVec := BitVec.ofNat (8 : Nat) (8 : Nat) }, (8 : UInt8), { toBitVec := BitVec.ofNat (8 : Nat) (8 : Nat) }, (8 : UInt8), { toBitVec := BitVec.ofNat (8 : Nat) (8 : Nat) }, (8 : UInt8), { toBitVec := BitVec.ofNat (8 : Nat) (8 : Nat) }, (8 : UInt8), { toBitVec := BitVec.ofNat (8 : Nat) (8 : Nat) }, (8 : UInt8), { toBitVec := BitVec.ofNat (8 : Nat) (8 : Nat) }, (8 : UInt8), { toBitVec := BitVec.ofNat (8 : Nat) (8 : Nat) }, (8 : UInt8), { toBitVec := BitVec.ofNat (8 : Nat) (8 : Nat) }, (8 : UInt8), { toBitVec := BitVec.ofNat (8 : Nat) (8 : Nat) }, (8 : UInt8), { toBitVec := BitVec.ofNat (8 : Nat) (8 : Nat) }, (8 : UInt8), { toBitVec := BitVec.ofNat (8 : Nat) (8 : Nat) }, (8 : UInt8), { toBitVec := BitVec.ofNat (8 : Nat) (8 : Nat) }, (8 : UInt8), { toBitVec := BitVec.ofNat (8 : Nat) (8 : Nat) }, (8 : UInt8), { toBitVec := BitVec.ofNat (8 : Nat) (8 : Nat) }, (8 : UInt8)].append
                                    [(8 : UInt8), { toBitVec := BitVec.ofNat (8 : Nat) (8 : Nat) }, (8 : UInt8), { toBitVec := BitVec.ofNat (8 : Nat) (8 : Nat) }, (8 : UInt8), { toBitVec := BitVec.ofNat (8 : Nat) (8 : Nat) }, (8 : UInt8), { toBitVec := BitVec.ofNat (8 : Nat) (8 : Nat) }, (8 : UInt8), { toBitVec := BitVec.ofNat (8 : Nat) (8 : Nat) }, (8 : UInt8), { toBitVec := BitVec.ofNat (8 : Nat) (8 : Nat) }, (8 : UInt8), { toBitVec := BitVec.ofNat (8 : Nat) (8 : Nat) }, (8 : UInt8), { toBitVec := BitVec.ofNat (8 : Nat) (8 : Nat) }, (8 : UInt8), { toBitVec := BitVec.ofNat (8 : Nat) (8 : Nat) }, (8 : UInt8), { toBitVec := BitVec.ofNat (8 : Nat) (8 : Nat) }, (8 : UInt8), { toBitVec := BitVec.ofNat (8 : Nat) (8 : Nat) }, (8 : UInt8), { toBitVec := BitVec.ofNat (8 : Nat) (8 : Nat) }, (8 : UInt8), { toBitVec := BitVec.ofNat (8 : Nat) (8 : Nat) }, (8 : UInt8), { toBitVec := BitVec.ofNat (8 : Nat) (8 : Nat) }, (8 : UInt8), { toBitVec := BitVec.ofNat (8 : Nat) (8 : Nat) }, (8 : UInt8), { toBitVec := BitVec.ofNat (8 : Nat) (8 : Nat) }, (8 : UInt8), { toBitVec := BitVec.ofNat (8 : Nat) (8 : Nat) }, (8 : UInt8), { toBitVec := BitVec.ofNat (8 : Nat) (8 : Nat) }, (8 : UInt8), { toBitVec := BitVec.ofNat (8 : Nat) (8 : Nat) }, (8 : UInt8), { toBitVec := BitVec.ofNat (8 : Nat) (8 : Nat) }, (8 : UInt8), { toBitVec := BitVec.ofNat (8 : Nat) (8 : Nat) }, (8 : UInt8), { toBitVec := BitVec.ofNat (8 : Nat) (8 : Nat) }, (8 : UInt8), { toBitVec := BitVec.ofNat (8 : Nat) (8 : Nat) }, (8 : UInt8), { toBitVec := BitVec.ofNat (8 : Nat) (8 : Nat) }, (8 : UInt8), { toBitVec := BitVec.ofNat (8 : Nat) (8 : Nat) }, (8 : UInt8), { toBitVec := BitVec.ofNat (8 : Nat) (8 : Nat) }, (8 : UInt8), { toBitVec := BitVec.ofNat (8 : Nat) (8 : Nat) }, (8 : UInt8), { toBitVec := BitVec.ofNat (8 : Nat) (8 : Nat) }, (8 : UInt8), { toBitVec := BitVec.ofNat (8 : Nat) (8 : Nat) }, (8 : UInt8), { toBitVec := BitVec.ofNat (8 : Nat) (8 : Nat) }, (8 : UInt8), { toBitVec := BitVec.ofNat (8 : Nat) (8 : Nat) }, (8 : UInt8), { toBitVec := BitVec.ofNat (8 : Nat) (8 : Nat) }])).toArray }
                      (IntKind.u8.wrap (x0 / (256 : Int))))))))]
  else none)
  (if (0 : Int) ≤ IntKind.u8.wrap x0 ∧ IntKind.u8.wrap x0 < (256 : Int) then
    some
      [D.s
          (S.sc
            (Value.int IntKind.i64
              (IntKind.i64.wrap
                (x1 +
                  IntKind.i64.wrap
                    (strAt
                      {
                        data :=
                          ((0 : UInt8) ::
                              ((1 : UInt8) ::
                                    [(2 : UInt8), { toBitVec := BitVec.ofNat (8 : Nat) (2 : Nat) }, (3 : UInt8), { toBitVec := BitVec.ofNat (8 : Nat) (3 : Nat) }, (3 : UInt8), { toBitVec := BitVec.ofNat (8 : Nat) (3 : Nat) }, (4 : UInt8), { toBitVec := BitVec.ofNat (8 : Nat) (4 : Nat) }, (4 : UInt8), { toBitVec := BitVec.ofNat (8 : Nat) (4 : Nat) }, (4 : UInt8), { toBitVec := BitVec.ofNat (8 : Nat) (4 : Nat) }, (4 : UInt8), { toBitVec := BitVec.ofNat (8 : Nat) (4 : Nat) }, (5 : UInt8), { toBitVec := BitVec.ofNat (8 : Nat) (5 : Nat) }, (5 : UInt8), { toBitVec := BitVec.ofNat (8 : Nat) (5 : Nat) }, (5 : UInt8), { toBitVec := BitVec.ofNat (8 : Nat) (5 : Nat) }, (5 : UInt8), { toBitVec := BitVec.ofNat (8 : Nat) (5 : Nat) }, (5 : UInt8), { toBitVec := BitVec.ofNat (8 : Nat) (5 : Nat) }, (5 : UInt8), { toBitVec := BitVec.ofNat (8 : Nat) (5 : Nat) }, (5 : UInt8), { toBitVec := BitVec.ofNat (8 : Nat) (5 : Nat) }, (5 : UInt8), { toBitVec := BitVec.ofNat (8 : Nat) (5 : Nat) }, (6 : UInt8), { toBitVec := BitVec.ofNat (8 : Nat) (6 : Nat) }, (6 : UInt8), { toBitVec := BitVec.ofNat (8 : Nat) (6 : Nat) }, (6 : UInt8), { toBitVec := BitVec.ofNat (8 : Nat) (6 : Nat) }, (6 : UInt8), { toBitVec := BitVec.ofNat (8 : Nat) (6 : Nat) }, (6 : UInt8), { toBitVec := BitVec.ofNat (8 : Nat) (6 : Nat) }, (6 : UInt8), { toBitVec := BitVec.ofNat (8 : Nat) (6 : Nat) }, (6 : UInt8), { toBitVec := BitVec.ofNat (8 : Nat) (6 : Nat) }, (6 : UInt8), { toBitVec := BitVec.ofNat (8 : Nat) (6 : Nat) }, (6 : UInt8), { toBitVec := BitVec.ofNat (8 : Nat) (6 : Nat) }, (6 : UInt8), { toBitVec := BitVec.ofNat (8 : Nat) (6 : Nat) }, (6 : UInt8), { toBitVec := BitVec.ofNat (8 : Nat) (6 : Nat) }, (6 : UInt8), { toBitVec := BitVec.ofNat (8 : Nat) (6 : Nat) }, (6 : UInt8), { toBitVec := BitVec.ofNat (8 : Nat) (6 : Nat) }, (6 : UInt8), { toBitVec := BitVec.ofNat (8 : Nat) (6 : Nat) }, (6 : UInt8), { toBitVec := BitVec.ofNat (8 : Nat) (6 : Nat) }, (6 : UInt8), { toBitVec := BitVec.ofNat (8 : Nat) (6 : Nat) }].append
                                      [(7 : UInt8), { toBitVec := BitVec.ofNat (8 : Nat) (7 : Nat) }, (7 : UInt8), { toBitVec := BitVec.ofNat (8 : Nat) (7 : Nat) }, (7 : UInt8), { toBitVec := BitVec.ofNat (8 : Nat) (7 : Nat) }, (7 : UInt8), { toBitVec := BitVec.ofNat (8 : Nat) (7 : Nat) }, (7 : UInt8), { toBitVec := BitVec.ofNat (8 : Nat) (7 : Nat) }, (7 : UInt8), { toBitVec := BitVec.ofNat (8 : Nat) (7 : Nat) }, (7 : UInt8), { toBitVec := BitVec.ofNat (8 : Nat) (7 : Nat) }, (7 : UInt8), { toBitVec := BitVec.ofNat (8 : Nat) (7 : Nat) }, (7 : UInt8), { toBitVec := BitVec.ofNat (8 : Nat) (7 : Nat) }, (7 : UInt8), { toBitVec := BitVec.ofNat (8 : Nat) (7 : Nat) }, (7 : UInt8), { toBitVec := BitVec.ofNat (8 : Nat) (7 : Nat) }, (7 : UInt8), { toBitVec := BitVec.ofNat (8 : Nat) (7 : Nat) }, (7 : UInt8), { toBitVec := BitVec.ofNat (8 : Nat) (7 : Nat) }, (7 : UInt8), { toBitVec := BitVec.ofNat (8 : Nat) (7 : Nat) }, (7 : UInt8), { toBitVec := BitVec.ofNat (8 : Nat) (7 : Nat) }, (7 : UInt8), { toBitVec := BitVec.ofNat (8 : Nat) (7 : Nat) }, (7 : UInt8), { toBitVec := BitVec.ofNat (8 : Nat) (7 : Nat) }, (7 : UInt8), { toBitVec := BitVec.ofNat (8 : Nat) (7 : Nat) }, (7 : UInt8), { toBitVec := BitVec.ofNat (8 : Nat) (7 : Nat) }, (7 : UInt8), { toBitVec := BitVec.ofNat (8 : Nat) (7 : Nat) }, (7 : UInt8), { toBitVec := BitVec.ofNat (8 : Nat) (7 : Nat) }, (7 : UInt8), { toBitVec := BitVec.ofNat (8 : Nat) (7 : Nat) }, (7 : UInt8), { toBitVec := BitVec.ofNat (8 : Nat) (7 : Nat) }, (7 : UInt8), { toBitVec := BitVec.ofNat (8 : Nat) (7 : Nat) }, (7 : UInt8), { toBitVec := BitVec.ofNat (8 : Nat) (7 : Nat) }, (7 : UInt8), { toBitVec := BitVec.ofNat (8 : Nat) (7 : Nat) }, (7 : UInt8), { toBitVec := BitVec.ofNat (8 : Nat) (7 : Nat) }, (7 : UInt8), { toBitVec := BitVec.ofNat (8 : Nat) (7 : Nat) }, (7 : UInt8), { toBitVec := BitVec.ofNat (8 : Nat) (7 : Nat) }, (7 : UInt8), { toBitVec := BitVec.ofNat (8 : Nat) (7 : Nat) }, (7 : UInt8), { toBitVec := BitVec.ofNat (8 : Nat) (7 : Nat) }, (7 : UInt8), { toBitVec := BitVec.ofNat (8 : Nat) (7 : Nat) }]).append
                                ((8 : UInt8) ::
                                  [(8 : UInt8), { toBitVec := BitVec.ofNat (8 : Nat) (8 : Nat) }, (8 : UInt8), { toBitVec := BitVec.ofNat (8 : Nat) (8 : Nat) }, (8 : UInt8), { toBitVec := BitVec.ofNat (8 : Nat) (8 : Nat) }, (8 : UInt8), { toBitVec := BitVec.ofNat (8 : Nat) (8 : Nat) }, (8 : UInt8), { toBitVec := BitVec.ofNat (8 : Nat) (8 : Nat) }, (8 : UInt8), { toBitVec := BitVec.ofNat (8 : Nat) (8 : Nat) }, (8 : UInt8), { toBitVec := BitVec.ofNat (8 : Nat) (8 : Nat) }, (8 : UInt8), { toBitVec := BitVec.ofNat (8 : Nat) (8 : Nat) }, (8 : UInt8), { toBitVec := BitVec.ofNat (8 : Nat) (8 : Nat) }, (8 : UInt8), { toBitVec := BitVec.ofNat (8 : Nat) (8 : Nat) }, (8 : UInt8), { toBitVec := BitVec.ofNat (8 : Nat) (8 : Nat) }, (8 : UInt8), { toBitVec := BitVec.ofNat (8 : Nat) (8 : Nat) }, (8 : UInt8), { toBitVec := BitVec.ofNat (8 : Nat) (8 : Nat) }, (8 : UInt8), { toBitVec := BitVec.ofNat (8 : Nat) (8 : Nat) }, (8 : UInt8), { toBitVec := BitVec.ofNat (8 : Nat) (8 : Nat) }, (8 : UInt8), { toBitVec := BitVec.ofNat (8 : Nat) (8 : Nat) }, (8 : UInt8), { toBitVec := BitVec.ofNat (8 : Nat) (8 : Nat) }, (8 : UInt8), { toBitVec := BitVec.ofNat (8 : Nat) (8 : Nat) }, (8 : UInt8), { toBitVec := BitVec.ofNat (8 : Nat) (8 : Nat) }, (8 : UInt8), { toBitVec := BitVec.ofNat (8 : Nat) (8 : Nat) }, (8 : UInt8), { toBitVec := BitVec.ofNat (8 : Nat) (8 : Nat) }, (8 : UInt8), { toBitVec := BitVec.ofNat (8 : Nat) (8 : Nat) }, (8 : UInt8), { toBitVec := BitVec.ofNat (8 : Nat) (8 : Nat) }, (8 : UInt8), { toBitVec := BitVec.ofNat (8 : Nat) (8 : Nat) }, (8 : UInt8), { toBitVec := BitVec.ofNat (8 : Nat) (8 : Nat) }, (8 : UInt8), { toBitVec := BitVec.ofNat (8 : Nat) (8 : Nat) }, (8 : UInt8), { toBitVec := BitVec.ofNat (8 : Nat) (8 : Nat) }, (8 : UInt8), { toBitVec := BitVec.ofNat (8 : Nat) (8 : Nat) }, (8 : UInt8), { toBitVec := BitVec.ofNat (8 : Nat) (8 : Nat) }, (8 : UInt8), { toBitVec := BitVec.ofNat (8 : Nat) (8 : Nat) }, (8 : UInt8), { toBitVec := BitVec.ofNat (8 : Nat) (8 : Nat) }, (8 : UInt8)].append
                                    [(8 : UInt8), { toBitVec := BitVec.ofNat (8 : Nat) (8 : Nat) }, (8 : UInt8), { toBitVec := BitVec.ofNat (8 : Nat) (8 : Nat) }, (8 : UInt8), { toBitVec := BitVec.ofNat (8 : Nat) (8 : Nat) }, (8 : UInt8), { toBitVec := BitVec.ofNat (8 : Nat) (8 : Nat) }, (8 : UInt8), { toBitVec := BitVec.ofNat (8 : Nat) (8 : Nat) }, (8 : UInt8), { toBitVec := BitVec.ofNat (8 : Nat) (8 : Nat) }, (8 : UInt8), { toBitVec := BitVec.ofNat (8 : Nat) (8 : Nat) }, (8 : UInt8), { toBitVec := BitVec.ofNat (8 : Nat) (8 : Nat) }, (8 : UInt8), { toBitVec := BitVec.ofNat (8 : Nat) (8 : Nat) }, (8 : UInt8), { toBitVec := BitVec.ofNat (8 : Nat) (8 : Nat) }, (8 : UInt8), { toBitVec := BitVec.ofNat (8 : Nat) (8 : Nat) }, (8 : UInt8), { toBitVec := BitVec.ofNat (8 : Nat) (8 : Nat) }, (8 : UInt8), { toBitVec := BitVec.ofNat (8 : Nat) (8 : Nat) }, (8 : UInt8), { toBitVec := BitVec.ofNat (8 : Nat) (8 : Nat) }, (8 : UInt8), { toBitVec := BitVec.ofNat (8 : Nat) (8 : Nat) }, (8 : UInt8), { toBitVec := BitVec.ofNat (8 : Nat) (8 : Nat) }, (8 : UInt8), { toBitVec := BitVec.ofNat (8 : Nat) (8 : Nat) }, (8 : UInt8), { toBitVec := BitVec.ofNat (8 : Nat) (8 : Nat) }, (8 : UInt8), { toBitVec := BitVec.ofNat (8 : Nat) (8 : Nat) }, (8 : UInt8), { toBitVec := BitVec.ofNat (8 : Nat) (8 : Nat) }, (8 : UInt8), { toBitVec := BitVec.ofNat (8 : Nat) (8 : Nat) }, (8 : UInt8), { toBitVec := BitVec.ofNat (8 : Nat) (8 : Nat) }, (8 : UInt8), { toBitVec := BitVec.ofNat (8 : Nat) (8 : Nat) }, (8 : UInt8), { toBitVec := BitVec.ofNat (8 : Nat) (8 : Nat) }, (8 : UInt8), { toBitVec := BitVec.ofNat (8 : Nat) (8 : Nat) }, (8 : UInt8), { toBitVec := BitVec.ofNat (8 : Nat) (8 : Nat) }, (8 : UInt8), { toBitVec := BitVec.ofNat (8 : Nat) (8 : Nat) }, (8 : UInt8), { toBitVec := BitVec.ofNat (8 : Nat) (8 : Nat) }, (8 : UInt8), { toBitVec := BitVec.ofNat (8 : Nat) (8 : Nat) }, (8 : UInt8), { toBitVec := BitVec.ofNat (8 : Nat) (8 : Nat) }, (8 : UInt8), { toBitVec := BitVec.ofNat (8 : Nat) (8 : Nat) }, (8 : UInt8), { toBitVec := BitVec.ofNat (8 : Nat) (8 : Nat) }])).toArray }
                      (IntKind.u8.wrap x0))))))]
  else none) := (cutAt_J rfl nok 7 _).trans (by kernel_rfl)
-- stuck: 0
end Len64
namespace Len64
def tab : ByteArray := ⟨((List.range 256).map fun n => UInt8.ofNat (bl n)).toArray⟩
theorem J7t (x n : Int) : J7 x n = bcase (decide (256 ≤ x))
  (if 0 ≤ IntKind.u8.wrap (x / 256) ∧ IntKind.u8.wrap (x / 256) < 256 then some [D.s (.sc (.int .i64 (IntKind.i64.wrap (IntKind.i64.wrap (n + 8) + IntKind.i64.wrap (strAt tab (IntKind.u8.wrap (x / 256)))))))] else none)
  (if 0 ≤ IntKind.u8.wrap x ∧ IntKind.u8.wrap x < 256 then some [D.s (.sc (.int .i64 (IntKind.i64.wrap (n + IntKind.i64.wrap (strAt tab (IntKind.u8.wrap x))))))] else none) := (J7_eq x n).trans (by kernel_rfl)
theorem tab_all : (List.range 256).all (fun n => strAt tab (n : Nat) == (bl n : Nat)) = true := by kernel_rfl
theorem tab_at {x : Int} (h : 0 ≤ x) (h' : x < 256) : strAt tab x = (bl x.toNat : Nat) := by
  have := List.all_eq_true.1 tab_all x.toNat (List.mem_range.2 (by omega))
  rw [show ((x.toNat : Nat) : Int) = x from by omega] at this
  exact eq_of_beq this
theorem wrap_u8 {x : Int} (h : 0 ≤ x) (h' : x < 256) : IntKind.u8.wrap x = x := by
  show (if (false && decide (x % 256 ≥ 128)) = true then x % 256 - 256 else x % 256) = x
  rw [Int.emod_eq_of_lt h h']; simp
theorem bl_shift {x : Int} {k : Nat} (h : (2 : Int) ^ k ≤ x) : bl x.toNat = k + bl (x / 2 ^ k).toNat := by
  have hp : (0 : Int) < 2 ^ k := Int.pow_pos (by omega)
  have hpn : ((2 ^ k : Nat) : Int) = 2 ^ k := by rw [Int.natCast_pow]; rfl
  obtain ⟨n, rfl⟩ := Int.eq_ofNat_of_zero_le (show 0 ≤ x by omega)
  rw [← hpn] at h ⊢
  rw [← Int.natCast_ediv, Int.toNat_natCast, Int.toNat_natCast]
  have h1 := Nat.div_add_mod n (2 ^ k)
  have h2 := Nat.mod_lt n (Nat.pow_pos (n := k) (show 0 < 2 by omega))
  have h3 : n / 2 ^ k ≠ 0 := by
    intro h0
    have := (Nat.div_eq_zero_iff_lt (Nat.pow_pos (n := k) (show 0 < 2 by omega))).1 h0
    omega
  have := bl_add h2 h3
  rw [show n % 2 ^ k + 2 ^ k * (n / 2 ^ k) = n from by omega] at this
  exact this
theorem J7v {x n : Int} (h : 0 ≤ x) (h' : x < 65536) (hn : 0 ≤ n) (hn' : n ≤ 1000) : J7 x n = some [D.s (.sc (.int .i64 (n + (bl x.toNat : Nat))))] := by
  rw [J7t]
  by_cases hc : 256 ≤ x
  · have hb : bl (x / 256).toNat ≤ 8 := bl_le.2 (by omega)
    have hs := bl_shift (x := x) (k := 8) (by omega)
    rw [show ((2 : Int) ^ 8) = 256 from rfl] at hs
    rw [bD_pos hc, wrap_u8 (by omega) (by omega), if_pos ⟨by omega, by omega⟩, tab_at (by omega) (by omega), wrap_i64 (n := n + 8) (by omega) (by omega), wrap_i64 (n := ((bl (x / 256).toNat : Nat) : Int)) (by omega) (by omega), wrap_i64 (by omega) (by omega), hs]
    congr 5
    omega
  · have hb : bl x.toNat ≤ 8 := bl_le.2 (by omega)
    rw [bD_neg hc, wrap_u8 (by omega) (by omega), if_pos ⟨by omega, by omega⟩, tab_at (by omega) (by omega), wrap_i64 (n := ((bl x.toNat : Nat) : Int)) (by omega) (by omega), wrap_i64 (by omega) (by omega)]
theorem J4v {x n : Int} (h : 0 ≤ x) (h' : x < 4294967296) (hn : 0 ≤ n) (hn' : n ≤ 500) : J4 x n = some [D.s (.sc (.int .i64 (n + (bl x.toNat : Nat))))] := by
  rw [J4_eq]
  by_cases hc : 65536 ≤ x
  · have hs := bl_shift (x := x) (k := 16) (by omega)
    rw [show ((2 : Int) ^ 16) = 65536 from rfl] at hs
    rw [bD_pos hc, wrap_i64 (n := n + 16) (by omega) (by omega), J7v (by omega) (by omega) (by omega) (by omega), hs]
    congr 5
    omega
  · rw [bD_neg hc, J7v (by omega) (by omega) (by omega) (by omega)]
noncomputable def sp (a : Int) : Prop × List D := (0 ≤ a ∧ a < 18446744073709551616, [.s (.sc (.int .i64 (bl a.toNat : Nat)))])
theorem spec (a : Int) (h : (sp a).1) : evalFn E Tryz.f146 cod [(pN .u64).put a] = some (sp a).2 := by
  obtain ⟨h1, h2⟩ := h
  refine (start a).trans ?_
  show _ = some [D.s (.sc (.int .i64 (bl a.toNat : Nat)))]
  by_cases hc : 4294967296 ≤ a
  · have hs := bl_shift (x := a) (k := 32) (by omega)
    rw [show ((2 : Int) ^ 32) = 4294967296 from rfl] at hs
    rw [bD_pos hc, J4v (by omega) (by omega) (by omega) (by omega), hs]
    congr 5
  · rw [bD_neg hc, J4v (by omega) (by omega) (by omega) (by omega)]
    congr 5
    omega

noncomputable def orc : Orc := orc1 (pN .u64) sp
theorem fnok : FnOk Tryz.prog E 146 Tryz.f146 cod := fnOk ty_ok mixed (callsOk_of _ rfl orcs_nil (ext_ok)) Tryz.func146 rfl rfl rfl
theorem ok : OrcOk Tryz.prog base.glob 146 orc := fnok.ok1 rfl spec
end Len64
end Go.Proofs.YtfebndgmmekmgaaGreatDoor.W

/- gnomon/nat.Bits -/
namespace Go.Proofs.YtfebndgmmekmgaaGreatDoor.W
open Go Go.Proofs.YtfebndgmmekmgaaGreatDoor.AI Go.Proofs.YtfebndgmmekmgaaGreatDoor.M
namespace NBits
noncomputable def E : Env := { ({ base with C := callsOf [(147, NTrim.orc), (146, Len64.orc)] }) with nt := 21, own := [], keep := fun k => (tlook [] k).getD [], cut := tlook [] }
noncomputable def cod : Code := (Go.Proofs.Tryz.f102.body).getD .skip
theorem nok : namesOk E cod = true := by kernel_rfl
theorem start (a : List Int) : evalFn E Go.Proofs.Tryz.f102 cod [D.s (S.ints IntKind.u64 a)] = gif (M6.Dig a ∧ a.length ≤ (1099511627776 : Nat)) (bcase ((↑(M6.dg (M6.val a)).length : Int) == (0 : Int)) (some [D.s (S.sc (Value.int IntKind.i64 (0 : Int)))]) (if (0 : Int) ≤ IntKind.i64.wrap ((↑(M6.dg (M6.val a)).length : Int) - (1 : Int)) ∧ IntKind.i64.wrap ((↑(M6.dg (M6.val a)).length : Int) - (1 : Int)) < (↑(M6.dg (M6.val a)).length : Int) then gif ((0 : Int) ≤ (M6.dg (M6.val a)).getD (IntKind.i64.wrap ((↑(M6.dg (M6.val a)).length : Int) - (1 : Int))).toNat (0 : Int) ∧ (M6.dg (M6.val a)).getD (IntKind.i64.wrap ((↑(M6.dg (M6.val a)).length : Int) - (1 : Int))).toNat (0 : Int) < (18446744073709551616 : Int)) (some [D.s (S.sc (Value.int IntKind.i64 (IntKind.i64.wrap (IntKind.i64.wrap ((64 : Int) * IntKind.i64.wrap ((↑(M6.dg (M6.val a)).length : Int) - (1 : Int))) + (↑(bl ((M6.dg (M6.val a)).getD (IntKind.i64.wrap ((↑(M6.dg (M6.val a)).length : Int) - (1 : Int))).toNat (0 : Int)).toNat) : Int)))))]) else none)) := (evalFn_J rfl nok _).trans (by kernel_rfl)
-- stuck: 0
end NBits
namespace NBits
noncomputable def sp (a : List Int) : Prop × List D := (M6.Dig a ∧ a.length ≤ 1099511627776, [.s (.sc (.int .i64 (bl (M6.val a) : Nat)))])
theorem pow64 (k : Nat) : 18446744073709551616 ^ k = 2 ^ (64 * k) := by rw [Nat.pow_mul]
theorem spec (a : List Int) (h : (sp a).1) : evalFn E Tryz.f102 cod [(pI .u64).put a] = some (sp a).2 := by
  refine (start a).trans ((gP h).trans ?_)
  show _ = some [D.s (.sc (.int .i64 (bl (M6.val a) : Nat)))]
  have hl := M6.len_val h.1
  have h2 := h.2
  have hn := M6.nrm_dg (M6.val a)
  have hv := M6.val_dg (M6.val a)
  generalize M6.dg (M6.val a) = d at *
  rw [← hv]
  by_cases hz : d.length = 0
  · rw [bE_pos (by omega), (M6.len_zero hn).1 hz]
    rfl
  · have hd := hn.dig.get (d.length - 1)
    have hv := M6.val_take_one (a := d) (d.length - 1)
    rw [show d.length - 1 + 1 = d.length from by omega, M6.val_take_ge (Nat.le_refl _)] at hv
    have ht : d.getD (d.length - 1) 0 ≠ 0 := by
      have := M6.getLast_take (a := d) (n := d.length - 1) (by omega)
      rw [show d.length - 1 + 1 = d.length from by omega, List.take_length] at this
      exact hn.top this
    have hb : bl (d.getD (d.length - 1) 0).toNat ≤ 64 := bl_le.2 (by omega)
    have e : ((d.length : Int) - 1).toNat = d.length - 1 := by omega
    rw [bE_neg (by omega), wrap_i64 (n := (d.length : Int) - 1) (by omega) (by omega), if_pos (by omega), e, gP hd, wrap_i64 (n := 64 * ((d.length : Int) - 1)) (by omega) (by omega), wrap_i64 (by omega) (by omega),
      hv, pow64, bl_add (by rw [← pow64]; exact M6.val_take_lt hn.dig _) (by omega)]
    congr 5
    omega

noncomputable def orc : Orc := orc1 (pI .u64) sp
theorem fnok : FnOk Tryz.prog E 102 Tryz.f102 cod := fnOk ty_ok mixed (callsOk_of _ rfl (orcs_cons NTrim.ok (orcs_cons Len64.ok orcs_nil)) (ext_ok)) Tryz.func102 rfl rfl rfl
theorem ok : OrcOk Tryz.prog base.glob 102 orc := fnok.ok1 rfl spec
end NBits
end Go.Proofs.YtfebndgmmekmgaaGreatDoor.W

/- gnomon/nat.Shl -/
namespace Go.Proofs.YtfebndgmmekmgaaGreatDoor.W
open Go Go.Proofs.YtfebndgmmekmgaaGreatDoor.AI Go.Proofs.YtfebndgmmekmgaaGreatDoor.M
namespace NShl
noncomputable def E : Env := { ({ base with C := callsOf [(105, NForm.orc), (106, NTold.orc), (102, NBits.orc)] }) with nt := 71, own := [68], keep := fun k => (tlook [(12, [0, 6, 7, 8, 34, 35])] k).getD [], cut := tlook [] }
noncomputable def cod : Code := (Go.Proofs.Tryz.f61.body).getD .skip
theorem nok : namesOk E cod = true := by kernel_rfl
noncomputable def L12 (xs0 : List Int) (x1 : Int) (x2 : Int) (m3 : Nat) (xs4 : List Int) (x5 : Int) (x6 : Int) : Option (List D) := lpO E Go.Proofs.Tryz.f61 cod 12 [(A.v (V.one (L.s (S.ints IntKind.u64 xs0))), none), (A.v (V.one (L.s (S.sc (Value.int IntKind.i64 x1)))), none), (A.v (V.one (L.s (S.sc (Value.int IntKind.i64 x2)))), none), (A.v (V.one (L.buf (3 : Nat) m3)), some { e := (24 : Nat), cont := Cont.ints IntKind.u64 xs4 }), (A.v (V.one (L.s (S.sc (Value.int IntKind.i64 x5)))), none), (A.v (V.one (L.s (S.sc (Value.int IntKind.i64 x6)))), none)]
theorem start (a : List Int) (b : Int) : evalFn E Go.Proofs.Tryz.f61 cod [D.s (S.ints IntKind.u64 a), D.s (S.sc (Value.int IntKind.i64 b))] = bcase (decide (b < (0 : Int))) (some [D.s (S.sc (Value.slice none (0 : Nat) (0 : Nat))), D.s (S.sc (Value.int IntKind.i64 (1 : Int)))]) (gif (a.length ≤ (1099511627776 : Nat)) (bcase (!NForm.formB a) (some [D.s (S.sc (Value.slice none (0 : Nat) (0 : Nat))), D.s (S.sc (Value.int IntKind.i64 (2 : Int)))]) (bcase ((↑a.length : Int) == (0 : Int)) (some [D.s (S.sc (Value.slice none (0 : Nat) (0 : Nat))), D.s (S.sc (Value.int IntKind.i64 (0 : Int)))]) (gif (M6.Dig a ∧ a.length ≤ (1099511627776 : Nat)) (bcase (decide (IntKind.i64.wrap ((524288 : Int) - (↑(bl (M6.val a)) : Int)) < b)) (some [D.s (S.sc (Value.slice none (0 : Nat) (0 : Nat))), D.s (S.sc (Value.int IntKind.i64 (5 : Int)))]) (if (0 : Int) ≤ IntKind.i64.wrap (IntKind.i64.wrap (IntKind.i64.wrap (b.tdiv (64 : Int)) + (↑a.length : Int)) + (1 : Int)) ∧ IntKind.i64.wrap (IntKind.i64.wrap (IntKind.i64.wrap (b.tdiv (64 : Int)) + (↑a.length : Int)) + (1 : Int)) ≤ IntKind.i64.wrap (IntKind.i64.wrap (IntKind.i64.wrap (b.tdiv (64 : Int)) + (↑a.length : Int)) + (1 : Int)) ∧ IntKind.i64.wrap (IntKind.i64.wrap (IntKind.i64.wrap (b.tdiv (64 : Int)) + (↑a.length : Int)) + (1 : Int)) ≤ (8796093022208 : Int) then NShl.L12 a (IntKind.i64.wrap (b.tdiv (64 : Int))) (b.tmod (64 : Int)) (IntKind.i64.wrap (IntKind.i64.wrap (IntKind.i64.wrap (b.tdiv (64 : Int)) + (↑a.length : Int)) + (1 : Int))).toNat (List.replicate (IntKind.i64.wrap (IntKind.i64.wrap (IntKind.i64.wrap (b.tdiv (64 : Int)) + (↑a.length : Int)) + (1 : Int))).toNat (0 : Int)) (↑a.length : Int) (0 : Int) else none)))))) := (evalFn_J rfl nok _).trans (by kernel_rfl)
theorem L12_eq (xs0 : List Int) (x1 : Int) (x2 : Int) (m3 : Nat) (xs4 : List Int) (x5 : Int) (x6 : Int) : L12 xs0 x1 x2 m3 xs4 x5 x6 = bcase (decide (x6 < x5)) (if (0 : Int) ≤ IntKind.i64.wrap (x1 + x6) ∧ IntKind.i64.wrap (x1 + x6) < (↑m3 : Int) then if (0 : Int) ≤ x6 ∧ x6 < (↑xs0.length : Int) then if x2 < (0 : Int) then none else if (0 : Int) ≤ IntKind.i64.wrap (x1 + x6) ∧ IntKind.i64.wrap (x1 + x6) < (↑m3 : Int) then if (0 : Int) ≤ x6 ∧ x6 < (↑xs0.length : Int) then if IntKind.i64.wrap ((63 : Int) - x2) < (0 : Int) then none else if (0 : Int) ≤ IntKind.i64.wrap (IntKind.i64.wrap (x1 + x6) + (1 : Int)) ∧ IntKind.i64.wrap (IntKind.i64.wrap (x1 + x6) + (1 : Int)) < (↑m3 : Int) then NShl.L12 xs0 x1 x2 m3 ((xs4.set (IntKind.i64.wrap (x1 + x6)).toNat (bitsI BinOp.or IntKind.u64 (xs4.getD (IntKind.i64.wrap (x1 + x6)).toNat (0 : Int)) (IntKind.u64.wrap (xs0.getD x6.toNat (0 : Int) * (↑((2 : Nat) ^ min x2.toNat (64 : Nat)) : Int))))).set (IntKind.i64.wrap (IntKind.i64.wrap (x1 + x6) + (1 : Int))).toNat (xs0.getD x6.toNat (0 : Int) / (2 : Int) / (↑((2 : Nat) ^ min (IntKind.i64.wrap ((63 : Int) - x2)).toNat (64 : Nat)) : Int))) x5 (IntKind.i64.wrap (x6 + (1 : Int))) else none else none else none else none else none) (gif (M6.Dig xs4 ∧ xs4.length ≤ (1099511627776 : Nat)) (some [D.s (S.ints IntKind.u64 (bif NTold.okN (M6.val xs4) then M6.dg (M6.val xs4) else [])), D.s (S.sc (Value.int IntKind.i64 (bif NTold.okN (M6.val xs4) then (0 : Int) else (5 : Int))))])) := (loopAt_J rfl nok 12 _).trans (by kernel_rfl)
-- stuck: 0
end NShl
namespace NShl
theorem step {a P : List Int} {c : Int} {q k i r : Nat} (ha : M6.Dig a) (hP : P.length = q + i) (hi : i < a.length) (hl : a.length ≤ 8192) (hq : q ≤ 8192) (hk : k < 64) (h0 : 0 ≤ c) (h1 : c < ((2 ^ k : Nat) : Int)) (hr : i + (r + 1) = a.length) :
    L12 a q k (q + a.length + 1) (P ++ c :: List.replicate (r + 1) 0) a.length i =
      L12 a q k (q + a.length + 1) ((P ++ [c + (((a.getD i 0).toNat * 2 ^ k % 18446744073709551616 : Nat) : Int)]) ++ (((a.getD i 0).toNat / 2 ^ (64 - k) : Nat) : Int) :: List.replicate r 0) a.length ((i + 1 : Nat) : Int) := by
  have g := ha.get i
  have w1 : IntKind.i64.wrap ((q : Int) + i) = ((q + i : Nat) : Int) := by rw [wrap_i64 (by omega) (by omega)]; omega
  have w2 : IntKind.i64.wrap (((q + i : Nat) : Int) + 1) = ((q + i + 1 : Nat) : Int) := by rw [wrap_i64 (by omega) (by omega)]; omega
  have w3 : IntKind.i64.wrap (63 - (k : Int)) = ((63 - k : Nat) : Int) := by rw [wrap_i64 (by omega) (by omega)]; omega
  have m1 : min k 64 = k := by omega
  have m2 : min (63 - k) 64 = 63 - k := by omega
  have hpk : 2 ^ k < 2 ^ 64 := Nat.pow_lt_pow_right (by omega) hk
  obtain ⟨x, hx⟩ := Int.eq_ofNat_of_zero_le g.1
  rw [L12_eq, bD_pos (by omega), w1, if_pos ⟨by omega, by omega⟩, if_pos ⟨by omega, by omega⟩, if_neg (by omega), if_pos ⟨by omega, by omega⟩, if_pos ⟨by omega, by omega⟩, w3, if_neg (by omega), w2, if_pos ⟨by omega, by omega⟩,
    Int.toNat_natCast, Int.toNat_natCast, Int.toNat_natCast, Int.toNat_natCast, Int.toNat_natCast, m1, m2, getD_fill hP, set_at hP, wrap_i64 (n := (i : Int) + 1) (by omega) (by omega), hx, Int.toNat_natCast]
  have hlo : IntKind.u64.wrap ((x : Int) * ((2 ^ k : Nat) : Int)) = ((x * 2 ^ k % 18446744073709551616 : Nat) : Int) := by
    rw [wrap_u64_eq, ← Int.natCast_mul, Int.natCast_emod]; rfl
  have hlt : x * 2 ^ k % 18446744073709551616 < 18446744073709551616 := Nat.mod_lt _ (by omega)
  have hor : bitsI .or .u64 c ((x * 2 ^ k % 18446744073709551616 : Nat) : Int) = c + ((x * 2 ^ k % 18446744073709551616 : Nat) : Int) := by
    rw [or64 h0 (by generalize 2 ^ k = p at *; omega) (by omega) (by omega), Int.toNat_natCast, shl_low x k hk, or_low (by omega)]
    omega
  have hhi : (x : Int) / 2 / ((2 ^ (63 - k) : Nat) : Int) = ((x / 2 ^ (64 - k) : Nat) : Int) := by
    have e : 2 ^ (64 - k) = 2 * 2 ^ (63 - k) := by rw [show 64 - k = (63 - k) + 1 from by omega, Nat.pow_succ, Nat.mul_comm]
    rw [e, ← Nat.div_div_eq_div_mul, Int.natCast_ediv, Int.natCast_ediv]
    rfl
  rw [hlo, hor, hhi]
  have hs := set_at (pre := P ++ [c + ((x * 2 ^ k % 18446744073709551616 : Nat) : Int)]) (i := q + i + 1) (by simp [hP]) 0 ((x / 2 ^ (64 - k) : Nat) : Int) (List.replicate r 0)
  rw [List.append_assoc, List.singleton_append, ← List.replicate_succ] at hs
  rw [hs]
  rfl

theorem L {a : List Int} {q k : Nat} (ha : M6.Nrm a) (hl : a.length ≤ 8192) (hq : q ≤ 8192) (hk : k < 64) (hok : NTold.okN (M6.val a * 2 ^ k * 18446744073709551616 ^ q) = true) : ∀ (r i : Nat) (P : List Int) (c : Int), i + r = a.length → P.length = q + i → M6.Dig P → 0 ≤ c → c < ((2 ^ k : Nat) : Int) →
    M6.val P + 18446744073709551616 ^ (q + i) * c.toNat = 18446744073709551616 ^ q * (M6.val (a.take i) * 2 ^ k) →
    L12 a q k (q + a.length + 1) (P ++ c :: List.replicate r 0) a.length i = some [D.s (.ints .u64 (M6.dg (M6.val a * 2 ^ k * 18446744073709551616 ^ q))), D.s (.sc (.int .i64 0))] := by
  intro r
  have hpk : 2 ^ k < 2 ^ 64 := Nat.pow_lt_pow_right (by omega) hk
  induction r with
  | zero =>
    intro i P c hi hP hd h0 h1 hv
    have hv2 : M6.val (P ++ c :: List.replicate 0 0) = M6.val a * 2 ^ k * 18446744073709551616 ^ q := by
      rw [List.replicate_zero, M6.val_push, hP, hv, M6.val_take_ge (by omega), Nat.mul_comm]
    have hdd : M6.Dig (P ++ c :: List.replicate 0 0) := by
      rw [List.replicate_zero]
      exact M6.dig_push hd ⟨h0, by generalize 2 ^ k = p at *; omega⟩
    rw [L12_eq, bD_neg (by omega), gP ⟨hdd, by simp; omega⟩, hv2, hok]
    rfl
  | succ r ih =>
    intro i P c hi hP hd h0 h1 hv
    have g := ha.dig.get i
    rw [step ha.dig hP (by omega) hl hq hk h0 h1 (by omega)]
    have hlt : (a.getD i 0).toNat * 2 ^ k % 18446744073709551616 < 18446744073709551616 := Nat.mod_lt _ (by omega)
    have hlow := shl_low (a.getD i 0).toNat k hk
    have hsp := shl_parts (a.getD i 0).toNat k hk
    have hhi : (a.getD i 0).toNat / 2 ^ (64 - k) < 2 ^ k := by
      apply Nat.div_lt_of_lt_mul
      rw [← Nat.pow_add, show 64 - k + k = 64 from by omega]
      omega
    have hsum : c.toNat + (a.getD i 0).toNat * 2 ^ k % 18446744073709551616 < 18446744073709551616 := by
      rw [hlow]
      have hm : (a.getD i 0).toNat % 2 ^ (64 - k) < 2 ^ (64 - k) := Nat.mod_lt _ (Nat.pow_pos (by omega))
      have e : (18446744073709551616 : Nat) = 2 ^ k * 2 ^ (64 - k) := by rw [← Nat.pow_add, show k + (64 - k) = 64 from by omega]
      have h3 : 2 ^ k * ((a.getD i 0).toNat % 2 ^ (64 - k) + 1) ≤ 2 ^ k * 2 ^ (64 - k) := Nat.mul_le_mul_left _ hm
      rw [← e, Nat.mul_add] at h3
      omega
    refine ih (i + 1) _ _ (by omega) (by simp [hP]; omega) (M6.dig_push hd ⟨by omega, by omega⟩) (by omega) (by omega) ?_
    rw [M6.val_push, hP, M6.val_take_one, Int.toNat_natCast, show q + (i + 1) = (q + i) + 1 from by omega, Nat.pow_succ, Nat.mul_assoc]
    have e1 : (c + (((a.getD i 0).toNat * 2 ^ k % 18446744073709551616 : Nat) : Int)).toNat = c.toNat + (a.getD i 0).toNat * 2 ^ k % 18446744073709551616 := by omega
    rw [e1]
    have e2 : 18446744073709551616 ^ (q + i) * (c.toNat + (a.getD i 0).toNat * 2 ^ k % 18446744073709551616) + 18446744073709551616 ^ (q + i) * (18446744073709551616 * ((a.getD i 0).toNat / 2 ^ (64 - k))) = 18446744073709551616 ^ (q + i) * c.toNat + 18446744073709551616 ^ (q + i) * ((a.getD i 0).toNat * 2 ^ k) := by
      rw [← Nat.mul_add, ← Nat.mul_add]
      congr 1
      omega
    have e3 : 18446744073709551616 ^ q * ((M6.val (a.take i) + 18446744073709551616 ^ i * (a.getD i 0).toNat) * 2 ^ k) = 18446744073709551616 ^ q * (M6.val (a.take i) * 2 ^ k) + 18446744073709551616 ^ (q + i) * ((a.getD i 0).toNat * 2 ^ k) := by
      rw [Nat.add_mul, Nat.mul_add, Nat.pow_add, Nat.mul_assoc, Nat.mul_assoc]
    rw [e3]
    omega

/-- Does the shifted number fit? -/
def shlOk (n k : Nat) : Bool := decide (n = 0) || decide (bl n + k ≤ 524288)
noncomputable def sp (a : List Int) (n : Int) : Prop × List D := (M6.Nrm a ∧ a.length ≤ 8192 ∧ 0 ≤ n ∧ n < 4611686018427387904, [.s (.ints .u64 (bif shlOk (M6.val a) n.toNat then M6.dg (M6.val a * 2 ^ n.toNat) else [])), .s (.sc (.int .i64 (bif shlOk (M6.val a) n.toNat then 0 else 5)))])
theorem spec (a : List Int) (n : Int) (h : (sp a n).1) : ∃ rs, evalFn E Tryz.f61 cod [(pI .u64).put a, (pN .i64).put n] = some rs ∧ RsLe rs (sp a n).2 := by
  obtain ⟨ha, hl, h0, h1⟩ := h
  have e := start a n
  have hb := bl6_len ha.dig hl
  rw [bD_neg (by omega), gP (by omega), NForm.form_of ha hl, Bool.not_true, bF] at e
  unfold sp shlOk
  simp only
  by_cases hz : a.length = 0
  · have hv := (M6.len_zero ha).1 hz
    rw [bE_pos (by omega)] at e
    rw [hv, Nat.zero_mul, M6.dg_zero, decide_eq_true rfl, Bool.true_or]
    exact ⟨_, e, .cons (RLe.nil _) (RsLe.refl _)⟩
  · have hv : M6.val a ≠ 0 := fun h => hz ((M6.len_zero ha).2 h)
    rw [bE_neg (by omega), gP ⟨ha.dig, by omega⟩, wrap_i64 (n := 524288 - (bl (M6.val a) : Int)) (by omega) (by omega)] at e
    rw [decide_eq_false hv, Bool.false_or]
    by_cases hc : bl (M6.val a) + n.toNat ≤ 524288
    · have hbp := bl_pos hv
      have eq : n / 64 = ((n.toNat / 64 : Nat) : Int) := by omega
      have ek : n % 64 = ((n.toNat % 64 : Nat) : Int) := by omega
      rw [bD_neg (by omega), tdiv64 h0, tmod64 h0, wrap_i64 (n := n / 64) (by omega) (by omega), wrap_i64 (n := n / 64 + a.length) (by omega) (by omega), wrap_i64 (by omega) (by omega), if_pos ⟨by omega, by omega, by omega⟩, eq, ek,
        show (((n.toNat / 64 : Nat) : Int) + (a.length : Int) + 1).toNat = n.toNat / 64 + a.length + 1 from by omega] at e
      have hval : M6.val a * 2 ^ n.toNat = M6.val a * 2 ^ (n.toNat % 64) * 18446744073709551616 ^ (n.toNat / 64) := by
        rw [pow_split6, Nat.mul_assoc, Nat.mul_comm (2 ^ (n.toNat % 64))]
      have hok : NTold.okN (M6.val a * 2 ^ (n.toNat % 64) * 18446744073709551616 ^ (n.toNat / 64)) = true := by
        rw [← hval]
        exact decide_eq_true (len6_bl (k := 8192) (by rw [Nat.mul_comm, bl_mul hv]; omega))
      have := L (q := n.toNat / 64) (k := n.toNat % 64) ha hl (by omega) (by omega) hok a.length 0 (List.replicate (n.toNat / 64) 0) 0 (by omega) (by simp) (M6.dig_replicate _) (by omega) (by have := Nat.pow_pos (n := n.toNat % 64) (show 0 < 2 by omega); omega) (by rw [M6.val_replicate]; simp [M6.val])
      rw [show (List.replicate (n.toNat / 64) (0 : Int) ++ 0 :: List.replicate a.length 0) = List.replicate (n.toNat / 64 + a.length + 1) 0 from by rw [← List.replicate_succ, List.replicate_append_replicate, Nat.add_assoc]] at this
      rw [decide_eq_true hc, hval]
      exact ⟨_, e.trans this, RsLe.refl _⟩
    · rw [bD_pos (by omega)] at e
      rw [decide_eq_false hc]
      exact ⟨_, e, .cons (RLe.nil _) (RsLe.refl _)⟩

noncomputable def orc : Orc := orc2 (pI .u64) (pN .i64) sp
theorem fnok : FnOk Tryz.prog E 61 Tryz.f61 cod := fnOk ty_ok mixed (callsOk_of _ rfl (orcs_cons NForm.ok (orcs_cons NTold.ok (orcs_cons NBits.ok orcs_nil))) (ext_ok)) Tryz.func61 rfl rfl rfl
theorem ok : OrcOk Tryz.prog base.glob 61 orc := fnok.wk2 rfl spec
end NShl
end Go.Proofs.YtfebndgmmekmgaaGreatDoor.W

/- gnomon/num.whole -/
namespace Go.Proofs.YtfebndgmmekmgaaGreatDoor.W
open Go Go.Proofs.YtfebndgmmekmgaaGreatDoor.AI Go.Proofs.YtfebndgmmekmgaaGreatDoor.M
namespace MWhole
noncomputable def E : Env := { (base) with nt := 13, own := [], keep := fun k => (tlook [] k).getD [], cut := tlook [] }
noncomputable def cod : Code := (Go.Proofs.Tryz.f65.body).getD .skip
theorem nok : namesOk E cod = true := by kernel_rfl
theorem start (a : Bool) (b : List Int) : evalFn E Go.Proofs.Tryz.f65 cod [D.s (S.sc (Value.bool a)), D.s (S.ints IntKind.u64 b)] = bcase a (some [D.agg [S.sc (Value.bool (decide ((0 : Int) < (↑b.length : Int)))), S.ints IntKind.u64 b]]) (some [D.agg [S.sc (Value.bool false), S.ints IntKind.u64 b]]) := (evalFn_J rfl nok _).trans (by kernel_rfl)
-- stuck: 0
end MWhole
namespace MWhole
noncomputable def sp (a : Bool) (b : List Int) : Prop × List D := (M6.Nrm b ∧ b.length ≤ 1099511627776, [wD (zs a (M6.val b))])
theorem spec (a : Bool) (b : List Int) (h : (sp a b).1) : evalFn E Tryz.f65 cod [pB.put a, (pI .u64).put b] = some (sp a b).2 := by
  obtain ⟨hb, hl⟩ := h
  refine (start a b).trans ?_
  show _ = some [wD (zs a (M6.val b))]
  rw [wD_zs, ← hb]
  cases a with
  | false => rfl
  | true =>
    rw [bT, Bool.true_and]
    have := M6.len_zero hb
    by_cases hz : b.length = 0
    · rw [decide_eq_false (show ¬ (0 < (b.length : Int)) by omega), decide_eq_false (show ¬ (M6.val b ≠ 0) from fun h => h (this.1 hz))]
    · rw [decide_eq_true (show (0 < (b.length : Int)) by omega), decide_eq_true (show (M6.val b ≠ 0) from fun h => hz (this.2 h))]

noncomputable def orc : Orc := orc2 pB (pI .u64) sp
theorem fnok : FnOk Tryz.prog E 65 Tryz.f65 cod := fnOk ty_ok mixed (callsOk_of _ rfl orcs_nil (ext_ok)) Tryz.func65 rfl rfl rfl
theorem ok : OrcOk Tryz.prog base.glob 65 orc := fnok.ok2 rfl spec
end MWhole
end Go.Proofs.YtfebndgmmekmgaaGreatDoor.W

/- gnomon/num.told -/
namespace Go.Proofs.YtfebndgmmekmgaaGreatDoor.W
open Go Go.Proofs.YtfebndgmmekmgaaGreatDoor.AI Go.Proofs.YtfebndgmmekmgaaGreatDoor.M
namespace MTold
noncomputable def E : Env := { ({ base with C := callsOf [(65, MWhole.orc)] }) with nt := 15, own := [], keep := fun k => (tlook [] k).getD [], cut := tlook [] }
noncomputable def cod : Code := (Go.Proofs.Tryz.f62.body).getD .skip
theorem nok : namesOk E cod = true := by kernel_rfl
theorem start (a : Bool) (b : List Int) (c : Int) : evalFn E Go.Proofs.Tryz.f62 cod [D.s (S.sc (Value.bool a)), D.s (S.ints IntKind.u64 b), D.s (S.sc (Value.int IntKind.i64 c))] = bcase (c != (0 : Int)) (some [D.agg [S.sc (Value.bool false), S.sc (Value.slice none (0 : Nat) (0 : Nat))], D.s (S.sc (Value.int IntKind.i64 c))]) (gif (M6.Nrm b ∧ b.length ≤ (1099511627776 : Nat)) (some [D.agg [S.sc (Value.bool (isNeg (zs a (M6.val b)))), S.ints IntKind.u64 (M6.dg (zs a (M6.val b)).natAbs)], D.s (S.sc (Value.int IntKind.i64 (0 : Int)))])) := (evalFn_J rfl nok _).trans (by kernel_rfl)
-- stuck: 0
end MTold
namespace MTold
noncomputable def sp (a : Bool) (b : List Int) (c : Int) : Prop × List D := (M6.Nrm b ∧ b.length ≤ 1099511627776, [wD (bif c == 0 then zs a (M6.val b) else 0), .s (.sc (.int .i64 c))])
theorem spec (a : Bool) (b : List Int) (c : Int) (h : (sp a b c).1) : ∃ rs, evalFn E Tryz.f62 cod [pB.put a, (pI .u64).put b, (pN .i64).put c] = some rs ∧ RsLe rs (sp a b c).2 := by
  have e := start a b c
  have hg : M6.Nrm b ∧ b.length ≤ 1099511627776 := h
  unfold sp
  simp only
  by_cases hc : c = 0
  · subst hc
    rw [bN_neg rfl, gP hg] at e
    exact ⟨_, e, RsLe.refl _⟩
  · rw [bN_pos hc] at e
    rw [beq_eq_false_iff_ne.2 hc, cond_false]
    refine ⟨_, e, .cons ?_ (RsLe.refl _)⟩
    unfold wD
    rw [show (0 : Int).natAbs = 0 from rfl, M6.dg_zero]
    exact RLe.agg (.cons (SLe.refl _) (.cons (SLe.nil _) .nil))

noncomputable def orc : Orc := orc3 pB (pI .u64) (pN .i64) sp
theorem fnok : FnOk Tryz.prog E 62 Tryz.f62 cod := fnOk ty_ok mixed (callsOk_of _ rfl (orcs_cons MWhole.ok orcs_nil) (ext_ok)) Tryz.func62 rfl rfl rfl
theorem ok : OrcOk Tryz.prog base.glob 62 orc := fnok.wk3 rfl spec
end MTold
end Go.Proofs.YtfebndgmmekmgaaGreatDoor.W

/- gnomon/num.Shl -/
namespace Go.Proofs.YtfebndgmmekmgaaGreatDoor.W
open Go Go.Proofs.YtfebndgmmekmgaaGreatDoor.AI Go.Proofs.YtfebndgmmekmgaaGreatDoor.M
namespace MShl
noncomputable def E : Env := { ({ base with C := callsOf [(60, MForm.orc), (61, NShl.orc), (62, MTold.orc)] }) with nt := 29, own := [26], keep := fun k => (tlook [] k).getD [], cut := tlook [] }
noncomputable def cod : Code := (Go.Proofs.Tryz.f22.body).getD .skip
theorem nok : namesOk E cod = true := by kernel_rfl
theorem start (a1 : Bool) (a2 : List Int) (b : Int) : evalFn E Go.Proofs.Tryz.f22 cod [D.agg [S.sc (Value.bool a1), S.ints IntKind.u64 a2], D.s (S.sc (Value.int IntKind.i64 b))] = bcase (decide (b < (0 : Int))) (some [D.agg [S.sc (Value.bool false), S.sc (Value.slice none (0 : Nat) (0 : Nat))], D.s (S.sc (Value.int IntKind.i64 (1 : Int)))]) (gif ((a1, a2).snd.length ≤ (1099511627776 : Nat)) (bcase (!MForm.formI (a1, a2)) (some [D.agg [S.sc (Value.bool false), S.sc (Value.slice none (0 : Nat) (0 : Nat))], D.s (S.sc (Value.int IntKind.i64 (2 : Int)))]) (gif (M6.Nrm a2 ∧ a2.length ≤ (8192 : Nat) ∧ (0 : Int) ≤ b ∧ b < (4611686018427387904 : Int)) (gif (M6.Nrm (bif NShl.shlOk (M6.val a2) b.toNat then M6.dg (M6.val a2 * (2 : Nat) ^ b.toNat) else []) ∧ (bif NShl.shlOk (M6.val a2) b.toNat then M6.dg (M6.val a2 * (2 : Nat) ^ b.toNat) else []).length ≤ (1099511627776 : Nat)) (some [D.agg [S.sc (Value.bool (isNeg (bif (bif NShl.shlOk (M6.val a2) b.toNat then (0 : Int) else (5 : Int)) == (0 : Int) then zs a1 (M6.val (bif NShl.shlOk (M6.val a2) b.toNat then M6.dg (M6.val a2 * (2 : Nat) ^ b.toNat) else [])) else (0 : Int)))), S.ints IntKind.u64 (M6.dg (bif (bif NShl.shlOk (M6.val a2) b.toNat then (0 : Int) else (5 : Int)) == (0 : Int) then zs a1 (M6.val (bif NShl.shlOk (M6.val a2) b.toNat then M6.dg (M6.val a2 * (2 : Nat) ^ b.toNat) else [])) else (0 : Int)).natAbs)], D.s (S.sc (Value.int IntKind.i64 (bif NShl.shlOk (M6.val a2) b.toNat then (0 : Int) else (5 : Int))))]))))) := (evalFn_J rfl nok _).trans (by kernel_rfl)
-- stuck: 0
end MShl
namespace MShl
theorem shl_fit (n k : Nat) : NShl.shlOk n k = fit (n * 2 ^ k) := by
  unfold NShl.shlOk fit
  by_cases h : n = 0
  · subst h
    rw [Nat.zero_mul]
    rfl
  · rw [decide_eq_false h, Bool.false_or, Nat.mul_comm, bl_mul h, Nat.add_comm]
noncomputable def sp (x : Bool × List Int) (n : Int) : Prop × List D := (Wok x ∧ 0 ≤ n ∧ n < 4611686018427387904, wE (fit (M6.val x.2 * 2 ^ n.toNat)) (wv x * ((2 ^ n.toNat : Nat) : Int)))
theorem spec (x : Bool × List Int) (n : Int) (h : (sp x n).1) : evalFn E Tryz.f22 cod [(pG (.pair sB (sI .u64))).put x, (pN .i64).put n] = some (sp x n).2 := by
  obtain ⟨hx, h0, h1⟩ := h
  refine (start x.1 x.2 n).trans ?_
  have l1 := hx.len
  have f1 := MForm.form_ok hx
  obtain ⟨p, a⟩ := x
  have n1 : M6.Nrm a := hx.1
  dsimp only at *
  unfold sp
  dsimp only
  have hs : wv (p, a) * ((2 ^ n.toNat : Nat) : Int) = zs p (M6.val a * 2 ^ n.toNat) := by
    unfold wv zs
    cases p with
    | true => simp [Int.neg_mul]
    | false => simp
  rw [bD_neg (by omega), gP (by omega), f1, Bool.not_true, bF, gP ⟨n1, l1, h0, h1⟩, gP (nrm_bif (fun h => by rw [shl_fit] at h; exact fit_le h)), wE_told, shl_fit, hs]

noncomputable def orc : Orc := orc2 (pG (.pair sB (sI .u64))) (pN .i64) sp
theorem fnok : FnOk Tryz.prog E 22 Tryz.f22 cod := fnOk ty_ok mixed (callsOk_of _ rfl (orcs_cons MForm.ok (orcs_cons NShl.ok (orcs_cons MTold.ok orcs_nil))) (ext_ok)) Tryz.func22 rfl rfl rfl
theorem ok : OrcOk Tryz.prog base.glob 22 orc := fnok.ok2 rfl spec
end MShl
end Go.Proofs.YtfebndgmmekmgaaGreatDoor.W

/- gnomon/nat.Add -/
namespace Go.Proofs.YtfebndgmmekmgaaGreatDoor.W
open Go Go.Proofs.YtfebndgmmekmgaaGreatDoor.AI Go.Proofs.YtfebndgmmekmgaaGreatDoor.M
namespace NAdd
noncomputable def E : Env := { ({ base with C := callsOf [(105, NForm.orc), (106, NTold.orc)] }) with nt := 65, own := [62], keep := fun k => (tlook [(8, [0, 1, 6, 7, 30, 31])] k).getD [], cut := tlook [(3, [0, 1]), (5, [0, 1]), (13, [0, 1, 6, 7, 8, 9, 30, 31])] }
noncomputable def cod : Code := (Go.Proofs.Tryz.f127.body).getD .skip
theorem nok : namesOk E cod = true := by kernel_rfl
noncomputable def J3 (xs0 : List Int) (xs1 : List Int) : Option (List D) := ctO E Go.Proofs.Tryz.f127 cod 3 [(A.v (V.one (L.s (S.ints IntKind.u64 xs0))), none), (A.v (V.one (L.s (S.ints IntKind.u64 xs1))), none)]
noncomputable def J5 (xs0 : List Int) (xs1 : List Int) : Option (List D) := ctO E Go.Proofs.Tryz.f127 cod 5 [(A.v (V.one (L.s (S.ints IntKind.u64 xs0))), none), (A.v (V.one (L.s (S.ints IntKind.u64 xs1))), none)]
noncomputable def L8 (xs0 : List Int) (xs1 : List Int) (m2 : Nat) (xs3 : List Int) (x4 : Int) (x5 : Int) (x6 : Int) : Option (List D) := lpO E Go.Proofs.Tryz.f127 cod 8 [(A.v (V.one (L.s (S.ints IntKind.u64 xs0))), none), (A.v (V.one (L.s (S.ints IntKind.u64 xs1))), none), (A.v (V.one (L.buf (2 : Nat) m2)), some { e := (24 : Nat), cont := Cont.ints IntKind.u64 xs3 }), (A.v (V.one (L.s (S.sc (Value.int IntKind.u64 x4)))), none), (A.v (V.one (L.s (S.sc (Value.int IntKind.i64 x5)))), none), (A.v (V.one (L.s (S.sc (Value.int IntKind.i64 x6)))), none)]
noncomputable def J13 (xs0 : List Int) (xs1 : List Int) (m2 : Nat) (xs3 : List Int) (x4 : Int) (x5 : Int) (x6 : Int) (x7 : Int) (x8 : Int) : Option (List D) := ctO E Go.Proofs.Tryz.f127 cod 13 [(A.v (V.one (L.s (S.ints IntKind.u64 xs0))), none), (A.v (V.one (L.s (S.ints IntKind.u64 xs1))), none), (A.v (V.one (L.buf (2 : Nat) m2)), some { e := (24 : Nat), cont := Cont.ints IntKind.u64 xs3 }), (A.v (V.one (L.s (S.sc (Value.int IntKind.u64 x4)))), none), (A.v (V.one (L.s (S.sc (Value.int IntKind.i64 x5)))), none), (A.v (V.one (L.s (S.sc (Value.int IntKind.u64 x6)))), none), (A.v (V.one (L.s (S.sc (Value.int IntKind.i64 x7)))), none), (A.v (V.one (L.s (S.sc (Value.int IntKind.i64 x8)))), none)]
theorem start (a : List Int) (b : List Int) : evalFn E Go.Proofs.Tryz.f127 cod [D.s (S.ints IntKind.u64 a), D.s (S.ints IntKind.u64 b)] = gif (a.length ≤ (1099511627776 : Nat)) (bcase (!NForm.formB a) (some [D.s (S.sc (Value.slice none (0 : Nat) (0 : Nat))), D.s (S.sc (Value.int IntKind.i64 (2 : Int)))]) (gif (b.length ≤ (1099511627776 : Nat)) (bcase (!NForm.formB b) (some [D.s (S.sc (Value.slice none (0 : Nat) (0 : Nat))), D.s (S.sc (Value.int IntKind.i64 (2 : Int)))]) (NAdd.J3 a b)))) := (evalFn_J rfl nok _).trans (by kernel_rfl)
theorem J3_eq (xs0 : List Int) (xs1 : List Int) : J3 xs0 xs1 = bcase (decide ((↑xs0.length : Int) < (↑xs1.length : Int))) (NAdd.J5 xs1 xs0) (NAdd.J5 xs0 xs1) := (cutAt_J rfl nok 3 _).trans (by kernel_rfl)
theorem J5_eq (xs0 : List Int) (xs1 : List Int) : J5 xs0 xs1 = if (0 : Int) ≤ IntKind.i64.wrap ((↑xs0.length : Int) + (1 : Int)) ∧ IntKind.i64.wrap ((↑xs0.length : Int) + (1 : Int)) ≤ IntKind.i64.wrap ((↑xs0.length : Int) + (1 : Int)) ∧ IntKind.i64.wrap ((↑xs0.length : Int) + (1 : Int)) ≤ (8796093022208 : Int) then NAdd.L8 xs0 xs1 (IntKind.i64.wrap ((↑xs0.length : Int) + (1 : Int))).toNat (List.replicate (IntKind.i64.wrap ((↑xs0.length : Int) + (1 : Int))).toNat (0 : Int)) (0 : Int) (↑xs0.length : Int) (0 : Int) else none := (cutAt_J rfl nok 5 _).trans (by kernel_rfl)
theorem L8_eq (xs0 : List Int) (xs1 : List Int) (m2 : Nat) (xs3 : List Int) (x4 : Int) (x5 : Int) (x6 : Int) : L8 xs0 xs1 m2 xs3 x4 x5 x6 = bcase (decide (x6 < x5)) (bcase (decide (x6 < (↑xs1.length : Int))) (if (0 : Int) ≤ x6 ∧ x6 < (↑xs1.length : Int) then NAdd.J13 xs0 xs1 m2 xs3 x4 x6 (xs1.getD x6.toNat (0 : Int)) x5 x6 else none) (NAdd.J13 xs0 xs1 m2 xs3 x4 x6 (0 : Int) x5 x6)) (if (0 : Int) ≤ (↑xs0.length : Int) ∧ (↑xs0.length : Int) < (↑m2 : Int) then gif (M6.Dig (xs3.set (↑xs0.length : Int).toNat x4) ∧ (xs3.set (↑xs0.length : Int).toNat x4).length ≤ (1099511627776 : Nat)) (some [D.s (S.ints IntKind.u64 (bif NTold.okN (M6.val (xs3.set (↑xs0.length : Int).toNat x4)) then M6.dg (M6.val (xs3.set (↑xs0.length : Int).toNat x4)) else [])), D.s (S.sc (Value.int IntKind.i64 (bif NTold.okN (M6.val (xs3.set (↑xs0.length : Int).toNat x4)) then (0 : Int) else (5 : Int))))]) else none) := (loopAt_J rfl nok 8 _).trans (by kernel_rfl)
theorem J13_eq (xs0 : List Int) (xs1 : List Int) (m2 : Nat) (xs3 : List Int) (x4 : Int) (x5 : Int) (x6 : Int) (x7 : Int) (x8 : Int) : J13 xs0 xs1 m2 xs3 x4 x5 x6 x7 x8 = if (0 : Int) ≤ x5 ∧ x5 < (↑xs0.length : Int) then gif ((0 : Int) ≤ xs0.getD x5.toNat (0 : Int) ∧ (0 : Int) ≤ x6 ∧ (0 : Int) ≤ x4 ∧ x4 ≤ (1 : Int)) (if (0 : Int) ≤ x5 ∧ x5 < (↑m2 : Int) then NAdd.L8 xs0 xs1 m2 (xs3.set x5.toNat ((xs0.getD x5.toNat (0 : Int) + x6 + x4) % (18446744073709551616 : Int))) ((xs0.getD x5.toNat (0 : Int) + x6 + x4) / (18446744073709551616 : Int)) x7 (IntKind.i64.wrap (x8 + (1 : Int))) else none) else none := (cutAt_J rfl nok 13 _).trans (by kernel_rfl)
-- stuck: 0
end NAdd
namespace NAdd
theorem step {a b pre : List Int} {c : Int} {i k : Nat} (ha : M6.Dig a) (hb : M6.Dig b) (hp : pre.length = i) (hi : i < a.length) (hl : a.length ≤ 8192) (h0 : 0 ≤ c) (h1 : c ≤ 1) :
    L8 a b (i + (k + 1)) (pre ++ List.replicate (k + 1) 0) c a.length i = L8 a b ((i + 1) + k) ((pre ++ [(a.getD i 0 + b.getD i 0 + c) % 18446744073709551616]) ++ List.replicate k 0) ((a.getD i 0 + b.getD i 0 + c) / 18446744073709551616) a.length ((i + 1 : Nat) : Int) := by
  have g1 := ha.get i
  have g2 := hb.get i
  have hJ : ∀ y : Int, 0 ≤ y → J13 a b (i + (k + 1)) (pre ++ List.replicate (k + 1) 0) c i y a.length i = L8 a b ((i + 1) + k) ((pre ++ [(a.getD i 0 + y + c) % 18446744073709551616]) ++ List.replicate k 0) ((a.getD i 0 + y + c) / 18446744073709551616) a.length ((i + 1 : Nat) : Int) := by
    intro y hy
    rw [J13_eq, if_pos (by omega), Int.toNat_natCast, gP ⟨g1.1, hy, h0, h1⟩, if_pos (by omega), set_fill hp, wrap_i64 (by omega) (by omega), show i + (k + 1) = (i + 1) + k from by omega]
    rfl
  rw [L8_eq, bD_pos (by omega)]
  by_cases h : i < b.length
  · rw [bD_pos (by omega), if_pos (by omega), Int.toNat_natCast, hJ _ g2.1]
  · rw [bD_neg (by omega), hJ 0 (by omega), M6.getD_none (a := b) (by omega)]
theorem L {a b : List Int} (ha : M6.Dig a) (hb : M6.Dig b) (hl : a.length ≤ 8192) (hba : b.length ≤ a.length) : ∀ (k i : Nat) (pre : List Int) (c : Int), i + k = a.length → pre.length = i → M6.Dig pre → 0 ≤ c → c ≤ 1 →
    M6.val pre + 18446744073709551616 ^ i * c.toNat = M6.val (a.take i) + M6.val (b.take i) →
    L8 a b (i + (k + 1)) (pre ++ List.replicate (k + 1) 0) c a.length i = some [D.s (.ints .u64 (bif NTold.okN (M6.val a + M6.val b) then M6.dg (M6.val a + M6.val b) else [])), D.s (.sc (.int .i64 (bif NTold.okN (M6.val a + M6.val b) then 0 else 5)))] := by
  intro k
  induction k with
  | zero =>
    intro i pre c hi hp hd h0 h1 hv
    have hia : i = a.length := by omega
    subst hia
    have hs : (pre ++ List.replicate (0 + 1) 0).set a.length c = pre ++ [c] := by rw [set_fill hp]; simp
    have hv2 : M6.val (pre ++ [c]) = M6.val a + M6.val b := by
      rw [M6.val_push, hp, hv, M6.val_take_ge (Nat.le_refl _), M6.val_take_ge (by omega)]
    rw [L8_eq, bD_neg (by omega), if_pos (by omega), Int.toNat_natCast, hs, hv2, gP ⟨M6.dig_push hd (by omega), by simp; omega⟩]
  | succ k ih =>
    intro i pre c hi hp hd h0 h1 hv
    have g1 := ha.get i
    have g2 := hb.get i
    rw [step ha hb hp (by omega) hl h0 h1]
    refine ih (i + 1) _ _ (by omega) (by simp [hp]) (M6.dig_push hd (by omega)) (by omega) (by omega) ?_
    rw [M6.val_push, M6.val_take_one, M6.val_take_one, hp, Nat.pow_succ, Nat.mul_assoc]
    generalize a.getD i 0 = x at *
    generalize b.getD i 0 = y at *
    generalize 18446744073709551616 ^ i = B at *
    have e : 18446744073709551616 * ((x + y + c) / 18446744073709551616).toNat + ((x + y + c) % 18446744073709551616).toNat = c.toNat + x.toNat + y.toNat := by omega
    have e2 : B * (18446744073709551616 * ((x + y + c) / 18446744073709551616).toNat) + B * ((x + y + c) % 18446744073709551616).toNat = B * c.toNat + B * x.toNat + B * y.toNat := by
      rw [← Nat.mul_add, e, Nat.mul_add, Nat.mul_add]
    omega
theorem J5l {a b : List Int} (ha : M6.Dig a) (hb : M6.Dig b) (hl : a.length ≤ 8192) (hba : b.length ≤ a.length) : J5 a b = some [D.s (.ints .u64 (bif NTold.okN (M6.val a + M6.val b) then M6.dg (M6.val a + M6.val b) else [])), D.s (.sc (.int .i64 (bif NTold.okN (M6.val a + M6.val b) then 0 else 5)))] := by
  rw [J5_eq, wrap_i64 (by omega) (by omega), if_pos ⟨by omega, by omega, by omega⟩, show ((a.length : Int) + 1).toNat = 0 + (a.length + 1) from by omega]
  have := L ha hb hl hba a.length 0 [] 0 (by omega) rfl M6.dig_nil (by omega) (by omega) (by simp [M6.val])
  rw [List.nil_append] at this
  rw [show 0 + (a.length + 1) = a.length + 1 from by omega] at this ⊢
  exact this
noncomputable def sp (a b : List Int) : Prop × List D := (M6.Nrm a ∧ M6.Nrm b ∧ a.length ≤ 8192 ∧ b.length ≤ 8192, [.s (.ints .u64 (bif NTold.okN (M6.val a + M6.val b) then M6.dg (M6.val a + M6.val b) else [])), .s (.sc (.int .i64 (bif NTold.okN (M6.val a + M6.val b) then 0 else 5)))])
theorem spec (a b : List Int) (h : (sp a b).1) : evalFn E Tryz.f127 cod [(pI .u64).put a, (pI .u64).put b] = some (sp a b).2 := by
  obtain ⟨ha, hb, h1, h2⟩ := h
  refine (start a b).trans ?_
  rw [gP (by omega), gP (by omega), NForm.form_of ha h1, NForm.form_of hb h2, Bool.not_true, bF, bF, J3_eq]
  by_cases hl : a.length < b.length
  · rw [bD_pos (by omega), J5l hb.dig ha.dig h2 (by omega), Nat.add_comm]
    rfl
  · rw [bD_neg (by omega), J5l ha.dig hb.dig h1 (by omega)]
    rfl

noncomputable def orc : Orc := orc2 (pI .u64) (pI .u64) sp
theorem fnok : FnOk Tryz.prog E 127 Tryz.f127 cod := fnOk ty_ok mixed (callsOk_of _ rfl (orcs_cons NForm.ok (orcs_cons NTold.ok orcs_nil)) (ext_ok)) Tryz.func127 rfl rfl rfl
theorem ok : OrcOk Tryz.prog base.glob 127 orc := fnok.ok2 rfl spec
end NAdd
end Go.Proofs.YtfebndgmmekmgaaGreatDoor.W

/- gnomon/nat.Cmp -/
namespace Go.Proofs.YtfebndgmmekmgaaGreatDoor.W
open Go Go.Proofs.YtfebndgmmekmgaaGreatDoor.AI Go.Proofs.YtfebndgmmekmgaaGreatDoor.M
namespace NCmp
noncomputable def E : Env := { ({ base with C := callsOf [(147, NTrim.orc)] }) with nt := 47, own := [], keep := fun k => (tlook [(7, [5, 6, 7])] k).getD [], cut := tlook [] }
noncomputable def cod : Code := (Go.Proofs.Tryz.f104.body).getD .skip
theorem nok : namesOk E cod = true := by kernel_rfl
noncomputable def L7 (xs0 : List Int) (xs1 : List Int) (x2 : Int) : Option (List D) := lpO E Go.Proofs.Tryz.f104 cod 7 [(A.v (V.one (L.s (S.ints IntKind.u64 xs0))), none), (A.v (V.one (L.s (S.ints IntKind.u64 xs1))), none), (A.v (V.one (L.s (S.sc (Value.int IntKind.i64 x2)))), none)]
theorem start (a : List Int) (b : List Int) : evalFn E Go.Proofs.Tryz.f104 cod [D.s (S.ints IntKind.u64 a), D.s (S.ints IntKind.u64 b)] = gif (M6.Dig a ∧ a.length ≤ (1099511627776 : Nat)) (gif (M6.Dig b ∧ b.length ≤ (1099511627776 : Nat)) (bcase ((↑(M6.dg (M6.val a)).length : Int) != (↑(M6.dg (M6.val b)).length : Int)) (bcase (decide ((↑(M6.dg (M6.val a)).length : Int) < (↑(M6.dg (M6.val b)).length : Int))) (some [D.s (S.sc (Value.int IntKind.i64 (-1 : Int)))]) (some [D.s (S.sc (Value.int IntKind.i64 (1 : Int)))])) (NCmp.L7 (M6.dg (M6.val a)) (M6.dg (M6.val b)) (IntKind.i64.wrap ((↑(M6.dg (M6.val a)).length : Int) - (1 : Int)))))) := (evalFn_J rfl nok _).trans (by kernel_rfl)
theorem L7_eq (xs0 : List Int) (xs1 : List Int) (x2 : Int) : L7 xs0 xs1 x2 = bcase (decide ((0 : Int) ≤ x2)) (if (0 : Int) ≤ x2 ∧ x2 < (↑xs0.length : Int) then if (0 : Int) ≤ x2 ∧ x2 < (↑xs1.length : Int) then bcase (xs0.getD x2.toNat (0 : Int) != xs1.getD x2.toNat (0 : Int)) (if (0 : Int) ≤ x2 ∧ x2 < (↑xs0.length : Int) then if (0 : Int) ≤ x2 ∧ x2 < (↑xs1.length : Int) then bcase (decide (xs0.getD x2.toNat (0 : Int) < xs1.getD x2.toNat (0 : Int))) (some [D.s (S.sc (Value.int IntKind.i64 (-1 : Int)))]) (some [D.s (S.sc (Value.int IntKind.i64 (1 : Int)))]) else none else none) (NCmp.L7 xs0 xs1 (IntKind.i64.wrap (x2 - (1 : Int)))) else none else none) (some [D.s (S.sc (Value.int IntKind.i64 (0 : Int)))]) := (loopAt_J rfl nok 7 _).trans (by kernel_rfl)
-- stuck: 0
end NCmp
namespace NCmp
noncomputable def sp (a b : List Int) : Prop × List D := (M6.Dig a ∧ M6.Dig b ∧ a.length ≤ 1099511627776 ∧ b.length ≤ 1099511627776, [.s (.sc (.int .i64 (cmpN (M6.val a) (M6.val b))))])
theorem L {a b : List Int} (ha : M6.Dig a) (hb : M6.Dig b) (hl : a.length = b.length) (hm : a.length ≤ 4398046511104) : ∀ n : Nat, n ≤ a.length → L7 a b ((n : Int) - 1) = some [D.s (.sc (.int .i64 (cmpN (M6.val (a.take n)) (M6.val (b.take n)))))]
  | 0, _ => by
    rw [L7_eq, bD_neg (by omega)]
    simp [cmpN, M6.val]
  | n + 1, h => by
    have e : (((n + 1 : Nat) : Int) - 1) = (n : Int) := by omega
    rw [e, L7_eq, bD_pos (by omega), if_pos (by omega), if_pos (by omega), if_pos (by omega), if_pos (by omega), Int.toNat_natCast, wrap_i64 (by omega) (by omega), L ha hb hl hm n (by omega)]
    have h1 := ha.get n
    have h2 := hb.get n
    have l1 := M6.val_take_lt ha n
    have l2 := M6.val_take_lt hb n
    rw [M6.val_take_one, M6.val_take_one]
    generalize a.getD n 0 = x at *
    generalize b.getD n 0 = y at *
    generalize M6.val (a.take n) = u at *
    generalize M6.val (b.take n) = v at *
    generalize 18446744073709551616 ^ n = B at *
    by_cases hxy : x < y
    · rw [bN_pos (by omega), bD_pos hxy]
      have : B * x.toNat + B ≤ B * y.toNat := by
        have : B * (x.toNat + 1) ≤ B * y.toNat := Nat.mul_le_mul_left _ (by omega)
        rw [Nat.mul_add] at this; omega
      unfold cmpN
      rw [if_pos (by omega)]
    · by_cases hyx : y < x
      · rw [bN_pos (by omega), bD_neg hxy]
        have : B * y.toNat + B ≤ B * x.toNat := by
          have : B * (y.toNat + 1) ≤ B * x.toNat := Nat.mul_le_mul_left _ (by omega)
          rw [Nat.mul_add] at this; omega
        unfold cmpN
        rw [if_neg (by omega), if_pos (by omega)]
      · have : x = y := by omega
        subst this
        rw [bN_neg rfl, cmpN_add]
theorem spec (a b : List Int) (h : (sp a b).1) : evalFn E Tryz.f104 cod [(pI .u64).put a, (pI .u64).put b] = some (sp a b).2 := by
  obtain ⟨ha, hb, h1, h2⟩ := h
  refine (start a b).trans ?_
  have la := M6.len_val ha
  have lb := M6.len_val hb
  rw [gP ⟨ha, h1⟩, gP ⟨hb, h2⟩]
  show _ = some [D.s (.sc (.int .i64 (cmpN (M6.val a) (M6.val b))))]
  have na := M6.nrm_dg (M6.val a)
  have nb := M6.nrm_dg (M6.val b)
  have va := M6.val_dg (M6.val a)
  have vb := M6.val_dg (M6.val b)
  rw [← va, ← vb]
  generalize M6.dg (M6.val a) = x at *
  generalize M6.dg (M6.val b) = y at *
  have e1 := M6.nrm_dg' na
  have e2 := M6.nrm_dg' nb
  rw [e1, e2]
  by_cases hl : x.length = y.length
  · rw [bN_neg (by omega), wrap_i64 (by omega) (by omega), L na.dig nb.dig hl (by omega) x.length (Nat.le_refl _), M6.val_take_ge (Nat.le_refl _), M6.val_take_ge (by omega)]
  · rw [bN_pos (by omega)]
    by_cases hlt : x.length < y.length
    · have := M6.nrm_len_lt na.dig nb hlt
      rw [bD_pos (by omega)]
      unfold cmpN
      rw [if_pos this]
    · have := M6.nrm_len_lt nb.dig na (by omega)
      rw [bD_neg (by omega)]
      unfold cmpN
      rw [if_neg (by omega), if_pos this]

noncomputable def orc : Orc := orc2 (pI .u64) (pI .u64) sp
theorem fnok : FnOk Tryz.prog E 104 Tryz.f104 cod := fnOk ty_ok mixed (callsOk_of _ rfl (orcs_cons NTrim.ok orcs_nil) (ext_ok)) Tryz.func104 rfl rfl rfl
theorem ok : OrcOk Tryz.prog base.glob 104 orc := fnok.ok2 rfl spec
end NCmp
end Go.Proofs.YtfebndgmmekmgaaGreatDoor.W

/- gnomon/nat.Sub -/
namespace Go.Proofs.YtfebndgmmekmgaaGreatDoor.W
open Go Go.Proofs.YtfebndgmmekmgaaGreatDoor.AI Go.Proofs.YtfebndgmmekmgaaGreatDoor.M
namespace NSub
noncomputable def E : Env := { ({ base with C := callsOf [(105, NForm.orc), (106, NTold.orc), (104, NCmp.orc)] }) with nt := 56, own := [53], keep := fun k => (tlook [(8, [0, 1, 6, 7, 26, 27])] k).getD [], cut := tlook [(3, [0, 1]), (13, [0, 1, 6, 7, 8, 9, 26, 27])] }
noncomputable def cod : Code := (Go.Proofs.Tryz.f64.body).getD .skip
theorem nok : namesOk E cod = true := by kernel_rfl
noncomputable def J3 (xs0 : List Int) (xs1 : List Int) : Option (List D) := ctO E Go.Proofs.Tryz.f64 cod 3 [(A.v (V.one (L.s (S.ints IntKind.u64 xs0))), none), (A.v (V.one (L.s (S.ints IntKind.u64 xs1))), none)]
noncomputable def L8 (xs0 : List Int) (xs1 : List Int) (m2 : Nat) (xs3 : List Int) (x4 : Int) (x5 : Int) (x6 : Int) : Option (List D) := lpO E Go.Proofs.Tryz.f64 cod 8 [(A.v (V.one (L.s (S.ints IntKind.u64 xs0))), none), (A.v (V.one (L.s (S.ints IntKind.u64 xs1))), none), (A.v (V.one (L.buf (2 : Nat) m2)), some { e := (24 : Nat), cont := Cont.ints IntKind.u64 xs3 }), (A.v (V.one (L.s (S.sc (Value.int IntKind.u64 x4)))), none), (A.v (V.one (L.s (S.sc (Value.int IntKind.i64 x5)))), none), (A.v (V.one (L.s (S.sc (Value.int IntKind.i64 x6)))), none)]
noncomputable def J13 (xs0 : List Int) (xs1 : List Int) (m2 : Nat) (xs3 : List Int) (x4 : Int) (x5 : Int) (x6 : Int) (x7 : Int) (x8 : Int) : Option (List D) := ctO E Go.Proofs.Tryz.f64 cod 13 [(A.v (V.one (L.s (S.ints IntKind.u64 xs0))), none), (A.v (V.one (L.s (S.ints IntKind.u64 xs1))), none), (A.v (V.one (L.buf (2 : Nat) m2)), some { e := (24 : Nat), cont := Cont.ints IntKind.u64 xs3 }), (A.v (V.one (L.s (S.sc (Value.int IntKind.u64 x4)))), none), (A.v (V.one (L.s (S.sc (Value.int IntKind.i64 x5)))), none), (A.v (V.one (L.s (S.sc (Value.int IntKind.u64 x6)))), none), (A.v (V.one (L.s (S.sc (Value.int IntKind.i64 x7)))), none), (A.v (V.one (L.s (S.sc (Value.int IntKind.i64 x8)))), none)]
theorem start (a : List Int) (b : List Int) : evalFn E Go.Proofs.Tryz.f64 cod [D.s (S.ints IntKind.u64 a), D.s (S.ints IntKind.u64 b)] = gif (a.length ≤ (1099511627776 : Nat)) (bcase (!NForm.formB a) (some [D.s (S.sc (Value.slice none (0 : Nat) (0 : Nat))), D.s (S.sc (Value.int IntKind.i64 (2 : Int)))]) (gif (b.length ≤ (1099511627776 : Nat)) (bcase (!NForm.formB b) (some [D.s (S.sc (Value.slice none (0 : Nat) (0 : Nat))), D.s (S.sc (Value.int IntKind.i64 (2 : Int)))]) (NSub.J3 a b)))) := (evalFn_J rfl nok _).trans (by kernel_rfl)
theorem J3_eq (xs0 : List Int) (xs1 : List Int) : J3 xs0 xs1 = gif (M6.Dig xs0 ∧ M6.Dig xs1 ∧ xs0.length ≤ (1099511627776 : Nat) ∧ xs1.length ≤ (1099511627776 : Nat)) (bcase (decide (cmpN (M6.val xs0) (M6.val xs1) < (0 : Int))) (some [D.s (S.sc (Value.slice none (0 : Nat) (0 : Nat))), D.s (S.sc (Value.int IntKind.i64 (3 : Int)))]) (if (0 : Int) ≤ (↑xs0.length : Int) ∧ (↑xs0.length : Int) ≤ (↑xs0.length : Int) ∧ (↑xs0.length : Int) ≤ (8796093022208 : Int) then NSub.L8 xs0 xs1 (↑xs0.length : Int).toNat (List.replicate (↑xs0.length : Int).toNat (0 : Int)) (0 : Int) (↑xs0.length : Int) (0 : Int) else none)) := (cutAt_J rfl nok 3 _).trans (by kernel_rfl)
theorem L8_eq (xs0 : List Int) (xs1 : List Int) (m2 : Nat) (xs3 : List Int) (x4 : Int) (x5 : Int) (x6 : Int) : L8 xs0 xs1 m2 xs3 x4 x5 x6 = bcase (decide (x6 < x5)) (bcase (decide (x6 < (↑xs1.length : Int))) (if (0 : Int) ≤ x6 ∧ x6 < (↑xs1.length : Int) then NSub.J13 xs0 xs1 m2 xs3 x4 x6 (xs1.getD x6.toNat (0 : Int)) x5 x6 else none) (NSub.J13 xs0 xs1 m2 xs3 x4 x6 (0 : Int) x5 x6)) (gif (M6.Dig xs3 ∧ xs3.length ≤ (1099511627776 : Nat)) (some [D.s (S.ints IntKind.u64 (bif NTold.okN (M6.val xs3) then M6.dg (M6.val xs3) else [])), D.s (S.sc (Value.int IntKind.i64 (bif NTold.okN (M6.val xs3) then (0 : Int) else (5 : Int))))])) := (loopAt_J rfl nok 8 _).trans (by kernel_rfl)
theorem J13_eq (xs0 : List Int) (xs1 : List Int) (m2 : Nat) (xs3 : List Int) (x4 : Int) (x5 : Int) (x6 : Int) (x7 : Int) (x8 : Int) : J13 xs0 xs1 m2 xs3 x4 x5 x6 x7 x8 = if (0 : Int) ≤ x5 ∧ x5 < (↑xs0.length : Int) then gif ((0 : Int) ≤ xs0.getD x5.toNat (0 : Int) ∧ (0 : Int) ≤ x6 ∧ x6 < (18446744073709551616 : Int) ∧ (0 : Int) ≤ x4 ∧ x4 ≤ (1 : Int)) (if (0 : Int) ≤ x5 ∧ x5 < (↑m2 : Int) then NSub.L8 xs0 xs1 m2 (xs3.set x5.toNat ((xs0.getD x5.toNat (0 : Int) - x6 - x4) % (18446744073709551616 : Int))) (if xs0.getD x5.toNat (0 : Int) < x6 + x4 then (1 : Int) else (0 : Int)) x7 (IntKind.i64.wrap (x8 + (1 : Int))) else none) else none := (cutAt_J rfl nok 13 _).trans (by kernel_rfl)
-- stuck: 0
end NSub
namespace NSub
theorem step {a b pre : List Int} {o : Int} {i k : Nat} (ha : M6.Dig a) (hb : M6.Dig b) (hp : pre.length = i) (hi : i < a.length) (hl : a.length ≤ 8192) (h0 : 0 ≤ o) (h1 : o ≤ 1) :
    L8 a b (i + (k + 1)) (pre ++ List.replicate (k + 1) 0) o a.length i = L8 a b ((i + 1) + k) ((pre ++ [(a.getD i 0 - b.getD i 0 - o) % 18446744073709551616]) ++ List.replicate k 0) (if a.getD i 0 < b.getD i 0 + o then 1 else 0) a.length ((i + 1 : Nat) : Int) := by
  have g1 := ha.get i
  have g2 := hb.get i
  have hJ : ∀ y : Int, 0 ≤ y → y < 18446744073709551616 → J13 a b (i + (k + 1)) (pre ++ List.replicate (k + 1) 0) o i y a.length i = L8 a b ((i + 1) + k) ((pre ++ [(a.getD i 0 - y - o) % 18446744073709551616]) ++ List.replicate k 0) (if a.getD i 0 < y + o then 1 else 0) a.length ((i + 1 : Nat) : Int) := by
    intro y hy hy'
    rw [J13_eq, if_pos (by omega), Int.toNat_natCast, gP ⟨g1.1, hy, hy', h0, h1⟩, if_pos (by omega), set_fill hp, wrap_i64 (by omega) (by omega), show i + (k + 1) = (i + 1) + k from by omega]
    rfl
  rw [L8_eq, bD_pos (by omega)]
  by_cases h : i < b.length
  · rw [bD_pos (by omega), if_pos (by omega), Int.toNat_natCast, hJ _ g2.1 g2.2]
  · rw [bD_neg (by omega), hJ 0 (by omega) (by omega), M6.getD_none (a := b) (by omega)]
theorem L {a b : List Int} (ha : M6.Dig a) (hb : M6.Dig b) (hl : a.length ≤ 8192) (hbl : b.length ≤ a.length) (hba : M6.val b ≤ M6.val a) : ∀ (k i : Nat) (pre : List Int) (o : Int), i + k = a.length → pre.length = i → M6.Dig pre → 0 ≤ o → o ≤ 1 →
    M6.val pre + M6.val (b.take i) = M6.val (a.take i) + 18446744073709551616 ^ i * o.toNat →
    L8 a b (i + k) (pre ++ List.replicate k 0) o a.length i = some [D.s (.ints .u64 (M6.dg (M6.val a - M6.val b))), D.s (.sc (.int .i64 0))] := by
  intro k
  induction k with
  | zero =>
    intro i pre o hi hp hd h0 h1 hv
    have hxv := M6.val_lt hd
    rw [hp] at hxv
    rw [M6.val_take_ge (by omega), M6.val_take_ge (by omega)] at hv
    have : o = 0 := by
      by_cases ho : o = 0
      · exact ho
      · exfalso
        have : o = 1 := by omega
        subst this
        rw [show (1 : Int).toNat = 1 from rfl, Nat.mul_one] at hv
        omega
    subst this
    simp only [Int.toNat_zero, Nat.mul_zero, Nat.add_zero] at hv
    have hlen := M6.len_val hd
    have hok : NTold.okN (M6.val pre) = true := decide_eq_true (by omega)
    rw [L8_eq, bD_neg (by omega), List.replicate_zero, List.append_nil, gP ⟨hd, by omega⟩, hok, cond_true, cond_true, show M6.val pre = M6.val a - M6.val b from by omega]
  | succ k ih =>
    intro i pre o hi hp hd h0 h1 hv
    have g1 := ha.get i
    have g2 := hb.get i
    rw [step ha hb hp (by omega) hl h0 h1]
    refine ih (i + 1) _ _ (by omega) (by simp [hp]) (M6.dig_push hd (by omega)) (by split <;> omega) (by split <;> omega) ?_
    rw [M6.val_push, M6.val_take_one, M6.val_take_one, hp, Nat.pow_succ, Nat.mul_assoc]
    generalize a.getD i 0 = x at *
    generalize b.getD i 0 = y at *
    have e : ((x - y - o) % 18446744073709551616).toNat + y.toNat + o.toNat = x.toNat + 18446744073709551616 * (if x < y + o then 1 else 0 : Int).toNat := by split <;> omega
    generalize 18446744073709551616 ^ i = B at *
    have e2 := congrArg (B * ·) e
    simp only [Nat.mul_add] at e2
    omega
noncomputable def sp (a b : List Int) : Prop × List D := (M6.Nrm a ∧ M6.Nrm b ∧ a.length ≤ 8192 ∧ b.length ≤ 8192, [.s (.ints .u64 (M6.dg (M6.val a - M6.val b))), .s (.sc (.int .i64 (if M6.val a < M6.val b then 3 else 0)))])
theorem spec (a b : List Int) (h : (sp a b).1) : ∃ rs, evalFn E Tryz.f64 cod [(pI .u64).put a, (pI .u64).put b] = some rs ∧ RsLe rs (sp a b).2 := by
  obtain ⟨ha, hb, h1, h2⟩ := h
  have e := start a b
  rw [gP (by omega), gP (by omega), NForm.form_of ha h1, NForm.form_of hb h2, Bool.not_true, bF, bF, J3_eq, gP ⟨ha.dig, hb.dig, by omega, by omega⟩] at e
  unfold sp
  simp only
  by_cases hc : M6.val a < M6.val b
  · rw [bD_pos (by unfold cmpN; rw [if_pos hc]; omega)] at e
    rw [if_pos hc, show M6.val a - M6.val b = 0 from by omega, M6.dg_zero]
    exact ⟨_, e, .cons (RLe.nil _) (RsLe.refl _)⟩
  · have hbl : b.length ≤ a.length := by
      rcases Nat.lt_or_ge a.length b.length with h | h
      · have := M6.nrm_len_lt ha.dig hb h; omega
      · exact h
    have := L ha.dig hb.dig h1 hbl (by omega) a.length 0 [] 0 (by omega) rfl M6.dig_nil (by omega) (by omega) (by simp [M6.val])
    rw [bD_neg (by unfold cmpN; rw [if_neg hc]; split <;> omega), if_pos ⟨by omega, by omega, by omega⟩, Int.toNat_natCast] at e
    rw [List.nil_append, show 0 + a.length = a.length from by omega] at this
    rw [if_neg hc]
    exact ⟨_, e.trans this, RsLe.refl _⟩

noncomputable def orc : Orc := orc2 (pI .u64) (pI .u64) sp
theorem fnok : FnOk Tryz.prog E 64 Tryz.f64 cod := fnOk ty_ok mixed (callsOk_of _ rfl (orcs_cons NForm.ok (orcs_cons NTold.ok (orcs_cons NCmp.ok orcs_nil))) (ext_ok)) Tryz.func64 rfl rfl rfl
theorem ok : OrcOk Tryz.prog base.glob 64 orc := fnok.wk2 rfl spec
end NSub
end Go.Proofs.YtfebndgmmekmgaaGreatDoor.W

/- gnomon/num.Add -/
namespace Go.Proofs.YtfebndgmmekmgaaGreatDoor.W
open Go Go.Proofs.YtfebndgmmekmgaaGreatDoor.AI Go.Proofs.YtfebndgmmekmgaaGreatDoor.M
namespace MAdd
noncomputable def E : Env := { ({ base with C := callsOf [(60, MForm.orc), (127, NAdd.orc), (104, NCmp.orc), (64, NSub.orc), (62, MTold.orc)] }) with nt := 62, own := [36, 59], keep := fun k => (tlook [] k).getD [], cut := tlook [(3, [2, 3, 4]), (8, [2, 3, 4])] }
noncomputable def cod : Code := (Go.Proofs.Tryz.f75.body).getD .skip
theorem nok : namesOk E cod = true := by kernel_rfl
noncomputable def J3 (b0 : Bool) (xs1 : List Int) (b2 : Bool) (xs3 : List Int) (b4 : Bool) : Option (List D) := ctO E Go.Proofs.Tryz.f75 cod 3 [(A.v (V.one (L.ptr (0 : Nat) (0 : Nat))), some { e := (26 : Nat), cont := Cont.cells [S.sc (Value.bool b0), S.ints IntKind.u64 xs1] }), (A.v (V.one (L.ptr (1 : Nat) (0 : Nat))), some { e := (26 : Nat), cont := Cont.cells [S.sc (Value.bool b2), S.ints IntKind.u64 xs3] }), (A.v (V.one (L.ptr (2 : Nat) (0 : Nat))), some { e := (26 : Nat), cont := Cont.cells [S.sc (Value.bool b4), S.sc (Value.slice none (0 : Nat) (0 : Nat))] })]
noncomputable def J8 (b0 : Bool) (xs1 : List Int) (b2 : Bool) (xs3 : List Int) (b4 : Bool) : Option (List D) := ctO E Go.Proofs.Tryz.f75 cod 8 [(A.v (V.one (L.ptr (0 : Nat) (0 : Nat))), some { e := (26 : Nat), cont := Cont.cells [S.sc (Value.bool b0), S.ints IntKind.u64 xs1] }), (A.v (V.one (L.ptr (1 : Nat) (0 : Nat))), some { e := (26 : Nat), cont := Cont.cells [S.sc (Value.bool b2), S.ints IntKind.u64 xs3] }), (A.v (V.one (L.ptr (2 : Nat) (0 : Nat))), some { e := (26 : Nat), cont := Cont.cells [S.sc (Value.bool b4), S.sc (Value.slice none (0 : Nat) (0 : Nat))] })]
theorem start (a1 : Bool) (a2 : List Int) (b1 : Bool) (b2 : List Int) : evalFn E Go.Proofs.Tryz.f75 cod [D.agg [S.sc (Value.bool a1), S.ints IntKind.u64 a2], D.agg [S.sc (Value.bool b1), S.ints IntKind.u64 b2]] = gif ((a1, a2).snd.length ≤ (1099511627776 : Nat)) (bcase (!MForm.formI (a1, a2)) (some [D.agg [S.sc (Value.bool false), S.sc (Value.slice none (0 : Nat) (0 : Nat))], D.s (S.sc (Value.int IntKind.i64 (2 : Int)))]) (gif ((b1, b2).snd.length ≤ (1099511627776 : Nat)) (bcase (!MForm.formI (b1, b2)) (some [D.agg [S.sc (Value.bool false), S.sc (Value.slice none (0 : Nat) (0 : Nat))], D.s (S.sc (Value.int IntKind.i64 (2 : Int)))]) (MAdd.J3 a1 a2 b1 b2 false)))) := (evalFn_J rfl nok _).trans (by kernel_rfl)
theorem J3_eq (b0 : Bool) (xs1 : List Int) (b2 : Bool) (xs3 : List Int) (b4 : Bool) : J3 b0 xs1 b2 xs3 b4 = bcase (b0 == b2) (gif (M6.Nrm xs1 ∧ M6.Nrm xs3 ∧ xs1.length ≤ (8192 : Nat) ∧ xs3.length ≤ (8192 : Nat)) (gif (M6.Nrm (bif NTold.okN (M6.val xs1 + M6.val xs3) then M6.dg (M6.val xs1 + M6.val xs3) else []) ∧ (bif NTold.okN (M6.val xs1 + M6.val xs3) then M6.dg (M6.val xs1 + M6.val xs3) else []).length ≤ (1099511627776 : Nat)) (some [D.agg [S.sc (Value.bool (isNeg (bif (bif NTold.okN (M6.val xs1 + M6.val xs3) then (0 : Int) else (5 : Int)) == (0 : Int) then zs b0 (M6.val (bif NTold.okN (M6.val xs1 + M6.val xs3) then M6.dg (M6.val xs1 + M6.val xs3) else [])) else (0 : Int)))), S.ints IntKind.u64 (M6.dg (bif (bif NTold.okN (M6.val xs1 + M6.val xs3) then (0 : Int) else (5 : Int)) == (0 : Int) then zs b0 (M6.val (bif NTold.okN (M6.val xs1 + M6.val xs3) then M6.dg (M6.val xs1 + M6.val xs3) else [])) else (0 : Int)).natAbs)], D.s (S.sc (Value.int IntKind.i64 (bif NTold.okN (M6.val xs1 + M6.val xs3) then (0 : Int) else (5 : Int))))]))) (gif (M6.Dig xs1 ∧ M6.Dig xs3 ∧ xs1.length ≤ (1099511627776 : Nat) ∧ xs3.length ≤ (1099511627776 : Nat)) (bcase (decide (cmpN (M6.val xs1) (M6.val xs3) < (0 : Int))) (MAdd.J8 b2 xs3 b0 xs1 b4) (MAdd.J8 b0 xs1 b2 xs3 b4))) := (cutAt_J rfl nok 3 _).trans (by kernel_rfl)
theorem J8_eq (b0 : Bool) (xs1 : List Int) (b2 : Bool) (xs3 : List Int) (b4 : Bool) : J8 b0 xs1 b2 xs3 b4 = gif (M6.Nrm xs1 ∧ M6.Nrm xs3 ∧ xs1.length ≤ (8192 : Nat) ∧ xs3.length ≤ (8192 : Nat)) (gif (M6.Nrm (M6.dg (M6.val xs1 - M6.val xs3)) ∧ (M6.dg (M6.val xs1 - M6.val xs3)).length ≤ (1099511627776 : Nat)) (some [D.agg [S.sc (Value.bool (isNeg (bif (if M6.val xs1 < M6.val xs3 then (3 : Int) else (0 : Int)) == (0 : Int) then zs b0 (M6.val (M6.dg (M6.val xs1 - M6.val xs3))) else (0 : Int)))), S.ints IntKind.u64 (M6.dg (bif (if M6.val xs1 < M6.val xs3 then (3 : Int) else (0 : Int)) == (0 : Int) then zs b0 (M6.val (M6.dg (M6.val xs1 - M6.val xs3))) else (0 : Int)).natAbs)], D.s (S.sc (Value.int IntKind.i64 (if M6.val xs1 < M6.val xs3 then (3 : Int) else (0 : Int))))])) := (cutAt_J rfl nok 8 _).trans (by kernel_rfl)
-- stuck: 0
end MAdd
namespace MAdd
theorem okN_fit (n : Nat) : NTold.okN n = fit n := len_fit
noncomputable def sp (x y : Bool × List Int) : Prop × List D := (Wok x ∧ Wok y, wE (fit (wv x + wv y).natAbs) (wv x + wv y))
theorem spec (x y : Bool × List Int) (h : (sp x y).1) : evalFn E Tryz.f75 cod [(pG (.pair sB (sI .u64))).put x, (pG (.pair sB (sI .u64))).put y] = some (sp x y).2 := by
  obtain ⟨hx, hy⟩ := h
  refine (start x.1 x.2 y.1 y.2).trans ?_
  have l1 := hx.len
  have l2 := hy.len
  have f1 := MForm.form_ok hx
  have f2 := MForm.form_ok hy
  have b1 := hx.bl
  have b2 := hy.bl
  obtain ⟨p, a⟩ := x
  obtain ⟨q, b⟩ := y
  have n1 : M6.Nrm a := hx.1
  have n2 : M6.Nrm b := hy.1
  dsimp only at *
  unfold sp
  dsimp only
  rw [gP (by omega), f1, Bool.not_true, bF, gP (by omega), f2, Bool.not_true, bF, J3_eq]
  have one : ∀ (s : Bool) (m n : Nat), n ≤ m → bl m ≤ 524288 → some [D.agg [S.sc (.bool (isNeg (bif (if m < n then (3 : Int) else 0) == 0 then zs s (M6.val (M6.dg (m - n))) else 0))), S.ints .u64 (M6.dg (bif (if m < n then (3 : Int) else 0) == 0 then zs s (M6.val (M6.dg (m - n))) else 0).natAbs)], D.s (S.sc (.int .i64 (if m < n then 3 else 0)))] = some (wE (fit (zs s (m - n)).natAbs) (zs s (m - n))) := by
    intro s m n h hb
    have : fit (zs s (m - n)).natAbs = true := by
      rw [zs_abs]
      exact decide_eq_true (Nat.le_trans (bl_mono (Nat.sub_le _ _)) hb)
    rw [if_neg (by omega), this, show ((0 : Int) == 0) = true from rfl, cond_true, M6.val_dg]
    rfl
  by_cases he : p = q
  · subst he
    have hs : wv (p, a) + wv (p, b) = zs p (M6.val a + M6.val b) := by
      unfold wv zs
      cases p <;> simp <;> omega
    rw [bB_pos (by simp), gP ⟨n1, n2, l1, l2⟩, gP (nrm_bif (fun h => by rw [okN_fit] at h; exact fit_le h)), wE_told, okN_fit, hs, zs_abs]
  · rw [bB_neg (by simpa using he), gP ⟨n1.dig, n2.dig, by omega, by omega⟩]
    by_cases hc : M6.val b ≤ M6.val a
    · have hs : wv (p, a) + wv (q, b) = zs p (M6.val a - M6.val b) := by
        unfold wv zs
        cases p <;> cases q <;> simp_all <;> omega
      have l3 := len6_bl (n := M6.val a - M6.val b) (k := 8192) (Nat.le_trans (bl_mono (Nat.sub_le _ _)) b1)
      rw [bD_neg (by have := cmpN_ge.2 hc; omega), J8_eq, gP ⟨n1, n2, l1, l2⟩, gP ⟨M6.nrm_dg _, by omega⟩, hs, one _ _ _ hc b1]
    · have hs : wv (p, a) + wv (q, b) = zs q (M6.val b - M6.val a) := by
        unfold wv zs
        cases p <;> cases q <;> simp_all <;> omega
      have l3 := len6_bl (n := M6.val b - M6.val a) (k := 8192) (Nat.le_trans (bl_mono (Nat.sub_le _ _)) b2)
      rw [bD_pos (by have := (not_congr cmpN_ge).2 hc; omega), J8_eq, gP ⟨n2, n1, l2, l1⟩, gP ⟨M6.nrm_dg _, by omega⟩, hs, one _ _ _ (by omega) b2]

noncomputable def orc : Orc := orc2 (pG (.pair sB (sI .u64))) (pG (.pair sB (sI .u64))) sp
theorem fnok : FnOk Tryz.prog E 75 Tryz.f75 cod := fnOk ty_ok mixed (callsOk_of _ rfl (orcs_cons MForm.ok (orcs_cons NAdd.ok (orcs_cons NCmp.ok (orcs_cons NSub.ok (orcs_cons MTold.ok orcs_nil))))) (ext_ok)) Tryz.func75 rfl rfl rfl
theorem ok : OrcOk Tryz.prog base.glob 75 orc := fnok.ok2 rfl spec
end MAdd
end Go.Proofs.YtfebndgmmekmgaaGreatDoor.W

/- math/bits.TrailingZeros64 -/
namespace Go.Proofs.YtfebndgmmekmgaaGreatDoor.W
open Go Go.Proofs.YtfebndgmmekmgaaGreatDoor.AI Go.Proofs.YtfebndgmmekmgaaGreatDoor.M
namespace Tz64
noncomputable def E : Env := { (base) with nt := 14, own := [], keep := fun k => (tlook [] k).getD [], cut := tlook [] }
noncomputable def cod : Code := (Go.Proofs.Tryz.f145.body).getD .skip
theorem nok : namesOk E cod = true := by kernel_rfl
theorem start (a : Int) : evalFn E Go.Proofs.Tryz.f145 cod [D.s (S.sc (Value.int IntKind.u64 a))] = bcase (a == (0 : Int)) (some [D.s (S.sc (Value.int IntKind.i64 (64 : Int)))]) (if (0 : Int) ≤ IntKind.u64.wrap (bitsI BinOp.and IntKind.u64 a (IntKind.u64.wrap ((0 : Int) - a)) * (285870213051353865 : Int)) / (288230376151711744 : Int) ∧ IntKind.u64.wrap (bitsI BinOp.and IntKind.u64 a (IntKind.u64.wrap ((0 : Int) - a)) * (285870213051353865 : Int)) / (288230376151711744 : Int) < (64 : Int) then some [D.s (S.sc (Value.int IntKind.i64 (IntKind.i64.wrap ([(0 : Int), (1 : Int), (56 : Int), (2 : Int), (57 : Int), (49 : Int), (28 : Int), (3 : Int), (61 : Int), (58 : Int), (42 : Int), (50 : Int), (38 : Int), (29 : Int), (17 : Int), (4 : Int), (62 : Int), (47 : Int), (59 : Int), (36 : Int), (45 : Int), (43 : Int), (51 : Int), (22 : Int), (53 : Int), (39 : Int), (33 : Int), (30 : Int), (24 : Int), (18 : Int), (12 : Int), (5 : Int), (63 : Int), (55 : Int), (48 : Int), (27 : Int), (60 : Int), (41 : Int), (37 : Int), (16 : Int), (46 : Int), (35 : Int), (44 : Int), (21 : Int), (52 : Int), (32 : Int), (23 : Int), (11 : Int), (54 : Int), (26 : Int), (40 : Int), (15 : Int), (34 : Int), (20 : Int), (31 : Int), (10 : Int), (25 : Int), (14 : Int), (19 : Int), (9 : Int), (13 : Int), (8 : Int), (7 : Int), (6 : Int)].getD (IntKind.u64.wrap (bitsI BinOp.and IntKind.u64 a (IntKind.u64.wrap ((0 : Int) - a)) * (285870213051353865 : Int)) / (288230376151711744 : Int)).toNat (0 : Int)))))] else none) := (evalFn_J rfl nok _).trans (by kernel_rfl)
-- stuck: 0
end Tz64
namespace Tz64
def tab : List Int := [0, 1, 56, 2, 57, 49, 28, 3, 61, 58, 42, 50, 38, 29, 17, 4, 62, 47, 59, 36, 45, 43, 51, 22, 53, 39, 33, 30, 24, 18, 12, 5, 63, 55, 48, 27, 60, 41, 37, 16, 46, 35, 44, 21, 52, 32, 23, 11, 54, 26, 40, 15, 34, 20, 31, 10, 25, 14, 19, 9, 13, 8, 7, 6]
theorem tab_all : (List.range 64).all (fun k => tab.getD (((2 ^ k * 285870213051353865 % 18446744073709551616 : Nat) : Int) / 288230376151711744).toNat 0 == (k : Int)) = true := by kernel_rfl
theorem tab_at {k : Nat} (h : k < 64) : tab.getD (((2 ^ k * 285870213051353865 % 18446744073709551616 : Nat) : Int) / 288230376151711744).toNat 0 = (k : Int) := eq_of_beq (List.all_eq_true.1 tab_all k (List.mem_range.2 h))
noncomputable def sp (a : Int) : Prop × List D := (0 ≤ a ∧ a < 18446744073709551616, [.s (.sc (.int .i64 (if a = 0 then 64 else ((tz a.toNat : Nat) : Int))))])
theorem spec (a : Int) (h : (sp a).1) : evalFn E Tryz.f145 cod [(pN .u64).put a] = some (sp a).2 := by
  obtain ⟨h1, h2⟩ := h
  refine (start a).trans ?_
  show _ = some [D.s (.sc (.int .i64 (if a = 0 then 64 else ((tz a.toNat : Nat) : Int))))]
  by_cases hz : a = 0
  · rw [bE_pos hz, if_pos hz]
  · have hlt : tz a.toNat < 64 := by
      have := tz_lt (n := a.toNat) (by omega)
      rcases Nat.lt_or_ge (tz a.toNat) 64 with h | h
      · exact h
      · have h3 : 2 ^ 64 ≤ 2 ^ tz a.toNat := Nat.pow_le_pow_right (by omega) h
        omega
    have ew : IntKind.u64.wrap (0 - a) = 18446744073709551616 - a := by rw [wrap_u64_eq]; omega
    have el : bitsI .and .u64 a (IntKind.u64.wrap (0 - a)) = ((2 ^ tz a.toNat : Nat) : Int) := by
      rw [ew, and64 h1 h2 (by omega) (by omega), land_neg 64 a.toNat (18446744073709551616 - a).toNat (by omega) (by omega) (by omega)]
    have em : IntKind.u64.wrap (((2 ^ tz a.toNat : Nat) : Int) * 285870213051353865) = ((2 ^ tz a.toNat * 285870213051353865 % 18446744073709551616 : Nat) : Int) := by
      rw [wrap_u64_eq]
      generalize 2 ^ tz a.toNat = p
      omega
    have ht := tab_at hlt
    have hm : 2 ^ tz a.toNat * 285870213051353865 % 18446744073709551616 < 18446744073709551616 := Nat.mod_lt _ (by omega)
    rw [bE_neg hz, if_neg hz, el, em]
    generalize 2 ^ tz a.toNat * 285870213051353865 % 18446744073709551616 = q at *
    rw [if_pos ⟨by omega, by omega⟩]
    have e3 : ([0, 1, 56, 2, 57, 49, 28, 3, 61, 58, 42, 50, 38, 29, 17, 4, 62, 47, 59, 36, 45, 43, 51, 22, 53, 39, 33, 30, 24, 18, 12, 5, 63, 55, 48, 27, 60, 41, 37, 16, 46, 35, 44, 21, 52, 32, 23, 11, 54, 26, 40, 15, 34, 20, 31, 10, 25, 14, 19, 9, 13, 8, 7, 6] : List Int) = tab := rfl
    rw [e3, ht, wrap_i64 (by omega) (by omega)]

noncomputable def orc : Orc := orc1 (pN .u64) sp
theorem fnok : FnOk Tryz.prog E 145 Tryz.f145 cod := fnOk ty_ok mixed (callsOk_of _ rfl orcs_nil (ext_ok)) Tryz.func145 rfl rfl rfl
theorem ok : OrcOk Tryz.prog base.glob 145 orc := fnok.ok1 rfl spec
end Tz64
end Go.Proofs.YtfebndgmmekmgaaGreatDoor.W

/- gnomon/nat.Trail -/
namespace Go.Proofs.YtfebndgmmekmgaaGreatDoor.W
open Go Go.Proofs.YtfebndgmmekmgaaGreatDoor.AI Go.Proofs.YtfebndgmmekmgaaGreatDoor.M
namespace NTrail
noncomputable def E : Env := { ({ base with C := callsOf [(145, Tz64.orc)] }) with nt := 23, own := [], keep := fun k => (tlook [(2, [0, 5, 6])] k).getD [], cut := tlook [] }
noncomputable def cod : Code := (Go.Proofs.Tryz.f100.body).getD .skip
theorem nok : namesOk E cod = true := by kernel_rfl
noncomputable def L2 (xs0 : List Int) (x1 : Int) (x2 : Int) : Option (List D) := lpO E Go.Proofs.Tryz.f100 cod 2 [(A.v (V.one (L.s (S.ints IntKind.u64 xs0))), none), (A.v (V.one (L.s (S.sc (Value.int IntKind.i64 x1)))), none), (A.v (V.one (L.s (S.sc (Value.int IntKind.i64 x2)))), none)]
theorem start (a : List Int) : evalFn E Go.Proofs.Tryz.f100 cod [D.s (S.ints IntKind.u64 a)] = NTrail.L2 a (↑a.length : Int) (0 : Int) := (evalFn_J rfl nok _).trans (by kernel_rfl)
theorem L2_eq (xs0 : List Int) (x1 : Int) (x2 : Int) : L2 xs0 x1 x2 = bcase (decide (x2 < x1)) (if (0 : Int) ≤ x2 ∧ x2 < (↑xs0.length : Int) then bcase (xs0.getD x2.toNat (0 : Int) != (0 : Int)) (if (0 : Int) ≤ x2 ∧ x2 < (↑xs0.length : Int) then gif ((0 : Int) ≤ xs0.getD x2.toNat (0 : Int) ∧ xs0.getD x2.toNat (0 : Int) < (18446744073709551616 : Int)) (some [D.s (S.sc (Value.int IntKind.i64 (IntKind.i64.wrap (IntKind.i64.wrap ((64 : Int) * x2) + if xs0.getD x2.toNat (0 : Int) = (0 : Int) then (64 : Int) else (↑(tz (xs0.getD x2.toNat (0 : Int)).toNat) : Int)))))]) else none) (NTrail.L2 xs0 x1 (IntKind.i64.wrap (x2 + (1 : Int)))) else none) (some [D.s (S.sc (Value.int IntKind.i64 (0 : Int)))]) := (loopAt_J rfl nok 2 _).trans (by kernel_rfl)
-- stuck: 0
end NTrail
namespace NTrail
noncomputable def sp (a : List Int) : Prop × List D := (M6.Dig a ∧ a.length ≤ 1099511627776, [.s (.sc (.int .i64 (tz (M6.val a) : Nat)))])
theorem L {a : List Int} (ha : M6.Dig a) (hl : a.length ≤ 1099511627776) : ∀ (d i : Nat), i + d = a.length → L2 a a.length i = some [D.s (.sc (.int .i64 (if M6.val (a.drop i) = 0 then 0 else (((64 * i + tz (M6.val (a.drop i)) : Nat)) : Int))))] := by
  intro d
  induction d with
  | zero =>
    intro i hi
    rw [L2_eq, bD_neg (by omega), List.drop_eq_nil_of_le (by omega)]
    rfl
  | succ d ih =>
    intro i hi
    have g := ha.get i
    have hv := M6.val_drop_one (a := a) i
    have hih := ih (i + 1) (by omega)
    rw [L2_eq, bD_pos (by omega), if_pos (by omega), Int.toNat_natCast, if_pos (by omega), gP g, wrap_i64 (n := (i : Int) + 1) (by omega) (by omega), wrap_i64 (n := 64 * (i : Int)) (by omega) (by omega), show (i : Int) + 1 = ((i + 1 : Nat) : Int) from by omega, hih]
    generalize a.getD i 0 = x at *
    rw [hv]
    by_cases hz : x = 0
    · subst hz
      rw [bN_neg rfl]
      simp only [Int.toNat_zero, Nat.zero_add]
      by_cases hz2 : M6.val (a.drop (i + 1)) = 0
      · rw [if_pos hz2, if_pos (by omega)]
      · have := tz_mul hz2 64
        rw [show (2 : Nat) ^ 64 = 18446744073709551616 from rfl] at this
        rw [if_neg hz2, if_neg (by omega), this]
        congr 5
        omega
    · have ht := tz_lt (n := x.toNat) (by omega)
      have ht2 : tz x.toNat < 64 := by
        rcases Nat.lt_or_ge (tz x.toNat) 64 with h | h
        · exact h
        · have h3 : 2 ^ 64 ≤ 2 ^ tz x.toNat := Nat.pow_le_pow_right (by omega) h
          omega
      have := tz_add (r := x.toNat) (k := 64) (n := M6.val (a.drop (i + 1))) (by omega) (by omega)
      rw [show (2 : Nat) ^ 64 = 18446744073709551616 from rfl] at this
      rw [bN_pos hz, if_neg hz, if_neg (by omega), this, wrap_i64 (by omega) (by omega)]
      congr 5
theorem spec (a : List Int) (h : (sp a).1) : evalFn E Tryz.f100 cod [(pI .u64).put a] = some (sp a).2 := by
  obtain ⟨ha, hl⟩ := h
  refine (start a).trans ?_
  have := L ha hl a.length 0 (by omega)
  rw [show (0 : Int) = ((0 : Nat) : Int) from rfl, this, List.drop_zero]
  show _ = some [D.s (.sc (.int .i64 (tz (M6.val a) : Nat)))]
  by_cases hz : M6.val a = 0
  · rw [if_pos hz, hz]; simp [tz]
  · rw [if_neg hz]
    congr 5
    omega

noncomputable def orc : Orc := orc1 (pI .u64) sp
theorem fnok : FnOk Tryz.prog E 100 Tryz.f100 cod := fnOk ty_ok mixed (callsOk_of _ rfl (orcs_cons Tz64.ok orcs_nil) (ext_ok)) Tryz.func100 rfl rfl rfl
theorem ok : OrcOk Tryz.prog base.glob 100 orc := fnok.ok1 rfl spec
end NTrail
end Go.Proofs.YtfebndgmmekmgaaGreatDoor.W

