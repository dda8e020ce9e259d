/- Texts of the claim on FastreduceParts, in their order: Ai14, Ai15, Ai16, Ai17, Ai18, M0, M1, M6, M2, Ty, FParts, FNorm, FWord, FMulSmall, FShl, FPow2, FDivSmall, FAdd, FCmp, FSub, FArctan, FSmall, FShr, FPiFloor, FPiFloor16, FBits, FCut22, FOf7, FDouble19, FParts7, FTo, FFits, FSize7, FCut7, FMk, FWhole7, FZAdd, FZSign, FZOf, FFlip, FZSub, FZCmp, FZShl. -/
import Derived.Laws.Externs
import Derived.Test.YtnhebddoclhnnaaProg
import Derived.KernelRfl
import Derived.Test.YtnhebddoclhnnaaBFastreduceParts1
/- A function: what the abstract interpreter tells of it is its contract. -/
namespace Go.Proofs.Ytnhebddoclhnnaa.AI
open Go Go.RowKit

theorem hasBody_of {P : Program} {f : FuncId} {fn : Func} {c : Code} (hf : P.funcs[f]? = some fn) (hb : fn.body = some c) (hn : (fn.name == "runtime.NumGoroutine") = false) : HasBody P f := by
  intro vs w
  have hn' : ¬ fn.name = "runtime.NumGoroutine" := by simpa using hn
  simp [callFunc, hf, hb, hn']

theorem lmapM_run {α β : Type} {P : Program} {w : World} {f : α → Sem β} {g : α → β} : ∀ {l : List α}, (∀ x ∈ l, (f x).run P w = .ok (g x) w) → (l.mapM f).run P w = .ok (l.map g) w
  | [], _ => rfl
  | x :: l, h => by
    rw [List.mapM_cons, Sem.run_bind, h x (List.mem_cons_self ..), Result.andThen_ok, Sem.run_bind, lmapM_run fun y hy => h y (List.mem_cons_of_mem _ hy)]
    rfl

theorem mapM_run {α β : Type} {P : Program} {w : World} {f : α → Sem β} {g : α → β} {arr : Array α} (h : ∀ x ∈ arr.toList, (f x).run P w = .ok (g x) w) :
    (arr.mapM f).run P w = .ok (arr.toList.map g).toArray w := by
  rw [Array.mapM_eq_mapM_toList, map_eq_pure_bind, Sem.run_bind, lmapM_run h]
  rfl

section
variable {P : Program} {E : Env} {X : Nat → Prop} {w0 : World} {ρ : Nat → Nat} {al : Nat → Prop} {st : St} {a : Act} {w : World}

/-- What lies apart among the results of a function, by the block. -/
def ownOf (st : St) : ResultVar → Option Nat
  | .tmp t => match st.fr t with
    | .v (.one (.buf i _)) => some i
    | _ => none
  | .cell _ _ => none

def resRun (a : Act) : ResultVar → Sem Value
  | .tmp t => pure (a.tmps.getD t undef)
  | .cell d t => do loadVar t (← asAddr (a.tmps.getD d undef))

def Good (X : Nat → Prop) (base : Nat) (st : St) (ρ : Nat → Nat) (w : World) (r : ResultVar) (v : Value) : D → Prop
  | .own e k ns => ∃ i, ownOf st r = some i ∧ (∃ b, st.hp i = some b) ∧ OwnAt base w (ρ i) e k ns v
  | d => RepD (XO X ρ st.hp) w d v

theorem resD_sound (hT : TyOk P E.T) (h : Sim E X w0 ρ al st.fr st.hp a w) {r : ResultVar} {d : D} (hd : resD E st r = some d) :
    ∃ v, (resRun a r).run P w = .ok v w ∧ Good X w0.heap.size st ρ w r v d := by
  cases r with
  | tmp t =>
    have hr := h.fr t
    refine ⟨_, rfl, ?_⟩
    unfold resD at hd
    simp only at hd
    split at hd
    · rename_i cs hf
      cases hd
      rw [hf] at hr
      exact hr
    · rename_i x hf
      cases hd
      rw [hf] at hr
      exact hr
    · rename_i i n hf
      split at hd
      · rename_i e k ns hb
        cases hd
        rw [hf] at hr
        obtain ⟨cap, hv, hle, hc⟩ := hr
        obtain ⟨e1, e2, e3⟩ := hc _ k ns hb rfl
        obtain ⟨hw, arr, hg, hcs⟩ := h.blk i _ hb
        have hs : arr.size = cap := by unfold asize at e3; rw [hg] at e3; exact e3
        refine ⟨i, by simp [ownOf, hf], ⟨_, hb⟩, arr, by rw [hs, ← e1]; exact hv, hw, hg, hcs.1, by omega, hcs.2⟩
      · cases hd
    · cases hd
  | cell t ty =>
    have hr := h.fr t
    unfold resD at hd
    simp only at hd
    split at hd
    · rename_i i off ti hf hti
      rw [hf] at hr
      have hr : a.tmps.getD t undef = .pointer (some ⟨ρ i, off, none⟩) := hr
      split at hd
      · rename_i e cs hb
        obtain ⟨_, arr, hg, hcs⟩ := h.blk i _ hb
        have hl : ∀ x, partOf ti cs off = some x → ∃ v, (resRun a (.cell t ty)).run P w = .ok v w ∧ RepV ρ st.hp (XO X ρ st.hp) w x v ∧ refsV x = [] := by
          intro x hx
          obtain ⟨v, h1, h2, h3⟩ := load_at (P := P) (hT ty ti hti) (b := ρ i) (off := 0) (cs := cs) (fun j s hs => by
            obtain ⟨u, hu, hr⟩ := hcs.2 j s hs
            exact ⟨u, by rw [cell_of_row w (ρ i) _ arr e (0, 0) hg]; simpa using hu, hr⟩) hx (ρ := ρ) (hp' := st.hp)
          rw [Nat.zero_add] at h1
          refine ⟨v, ?_, h2, h3⟩
          unfold resRun
          rw [Sem.run_bind, hr]
          simpa [asAddr] using h1
        split at hd
        · rename_i cs' hx
          cases hd
          obtain ⟨v, h1, h2, _⟩ := hl _ hx
          exact ⟨v, h1, h2⟩
        · rename_i x hx
          cases hd
          obtain ⟨v, h1, h2, _⟩ := hl _ hx
          exact ⟨v, h1, h2⟩
        · cases hd
      · cases hd
    · cases hd

theorem mapM_all {α β : Type} {f : α → Option β} : ∀ {l : List α} {ys : List β}, l.mapM f = some ys → ys.length = l.length ∧ ∀ (i : Nat) (x : α), l[i]? = some x → ∃ y, ys[i]? = some y ∧ f x = some y
  | [], ys, h => by simp at h; subst h; simp
  | x :: l, ys, h => by
    rw [List.mapM_cons] at h
    cases hx : f x with
    | none => rw [hx] at h; cases h
    | some y =>
      cases hl : l.mapM f with
      | none => rw [hx, hl] at h; cases h
      | some ys' =>
        rw [hx, hl] at h
        cases h
        obtain ⟨h1, h2⟩ := mapM_all hl
        refine ⟨by simp [h1], fun i x' hi => ?_⟩
        match i with
        | 0 => simp at hi; subst hi; exact ⟨y, rfl, hx⟩
        | i + 1 => simp at hi; obtain ⟨y', e1, e2⟩ := h2 i x' hi; exact ⟨y', by simpa using e1, e2⟩

theorem ownIds_mem : ∀ {l : List ResultVar} {j : Nat} {r : ResultVar} {i : Nat}, l[j]? = some r → ownOf st r = some i → i ∈ ownIds st l
  | [], j, r, i, h, _ => by simp at h
  | r0 :: l, 0, r, i, h, ho => by
    simp at h; subst h
    cases r0 with
    | cell => cases ho
    | tmp t =>
      simp only [ownOf] at ho
      split at ho
      · rename_i i' n hf; cases ho; simp [ownIds, hf]
      · cases ho
  | r0 :: l, j + 1, r, i, h, ho => by
    have := ownIds_mem (l := l) (j := j) (by simpa using h) ho
    cases r0 with
    | cell => exact this
    | tmp t => simp only [ownIds]; exact List.mem_append_right _ this

theorem nodup_app : ∀ {xs ys : List Nat}, nodup (xs ++ ys) = true → nodup ys = true ∧ ∀ x ∈ xs, x ∉ ys
  | [], ys, h => ⟨h, by simp⟩
  | x :: xs, ys, h => by
    simp only [List.cons_append, nodup, Bool.and_eq_true] at h
    obtain ⟨h1, h2⟩ := nodup_app h.2
    refine ⟨h1, fun y hy => ?_⟩
    rcases List.mem_cons.1 hy with rfl | hy
    · intro hm
      have : (xs ++ ys).elem y = true := by simp [hm]
      rw [this] at h
      simp at h
    · exact h2 y hy

theorem ownIds_inj : ∀ {l : List ResultVar} {j j' : Nat} {r r' : ResultVar} {i : Nat}, nodup (ownIds st l) = true → l[j]? = some r → l[j']? = some r' → ownOf st r = some i → ownOf st r' = some i → j = j'
  | [], j, j', r, r', i, _, h, _, _, _ => by simp at h
  | r0 :: l, j, j', r, r', i, hn, h, h', ho, ho' => by
    have hrest : nodup (ownIds st l) = true := by
      cases r0 with
      | cell => exact hn
      | tmp t => simp only [ownIds] at hn; exact (nodup_app hn).1
    have hhead : ∀ r1, ownOf st r0 = some i → ∀ k : Nat, l[k]? = some r1 → ownOf st r1 = some i → False := by
      intro r1 h0 k hk h1
      have hm := ownIds_mem hk h1
      cases r0 with
      | cell => cases h0
      | tmp t =>
        simp only [ownOf] at h0
        split at h0
        · rename_i i' n hf
          cases h0
          simp only [ownIds, hf] at hn
          exact (nodup_app hn).2 i (by simp) hm
        · cases h0
    match j, j' with
    | 0, 0 => rfl
    | 0, j' + 1 => simp at h h'; subst h; exact (hhead r' ho j' h' ho').elim
    | j + 1, 0 => simp at h h'; subst h'; exact (hhead r ho' j h ho).elim
    | j + 1, j' + 1 => simp at h h'; exact congrArg (· + 1) (ownIds_inj hrest h h' ho ho')

theorem argFr_get : ∀ {ds : List D} {t : Nat}, (∃ d, ds[t]? = some d ∧ argFr ds t = argA d) ∨ argFr ds t = .any
  | [], _ => .inr rfl
  | d :: _, 0 => .inl ⟨d, rfl, rfl⟩
  | _ :: ds, t + 1 => by
    rcases argFr_get (ds := ds) (t := t) with ⟨d, h1, h2⟩ | h
    · exact .inl ⟨d, by simpa using h1, h2⟩
    · exact .inr h
end

theorem refs_argA (d : D) : refs (argA d) = [] := by cases d <;> rfl

theorem oneOf (vs : List Value) : (if h : vs.toArray.size = 1 then vs.toArray[0] else Value.tuple vs.toArray) = resV vs := by
  match vs with
  | [] => simp [resV]
  | [v] => simp [resV]
  | _ :: _ :: _ => simp [resV]

/-- THE CONTRACT OF A FUNCTION, by what the abstract interpreter tells of its text. -/
theorem fn_contract {P : Program} {E : Env} (hT : TyOk P E.T) (hC : CallsOk P E) (hm : P.follows .mixedOrders = true) {f : FuncId} {fn : Func} {c : Code} (hf : P.funcs[f]? = some fn) (hb : fn.body = some c) (hnt : E.nt = fn.ntmps)
    {ds rs : List D} (hle : ds.length ≤ fn.ntmps) (he : evalFn E fn c ds = some rs) : Contract P E.glob f ds rs := by
  intro Y w vs hY hG hlen hargs
  refine calls_of_wp hf hb ?_
  have hsim : Sim E Y w id (fun i => i < 0) (argFr ds) (fun _ => none) { tmps := vs.toArray ++ Array.replicate (fn.ntmps - vs.toArray.size) undef, defers := [] } w := by
    have hx : ∀ b, XO Y id (fun _ => none) b → Y b := by
      rintro b (h | ⟨i, bl, h, _⟩)
      · exact h
      · cases h
    have hl : Later Y w (XO Y id (fun _ => none)) w := ⟨Nat.le_refl _, fun b _ h => ⟨rfl, fun h' => h (hx b h')⟩⟩
    refine { fr := ?_, sz := by simp [hnt]; omega, nod := rfl, blk := (fun _ _ h => by cases h), inj := (fun _ _ _ _ h => by cases h), alh := (fun _ _ h => by cases h), alr := ?_, below := Below.refl _ _, x0 := hY, glob := hG }
    · intro t
      rcases argFr_get (ds := ds) (t := t) with ⟨d, h1, h2⟩ | h
      · rw [h2]
        have ht := getElem?_lt h1
        obtain ⟨v, hv⟩ := getElem?_of_lt (l := vs) (i := t) (by omega)
        have hr := (hargs t d v h1 hv).later hl
        have e : (vs.toArray ++ Array.replicate (fn.ntmps - vs.toArray.size) undef).getD t undef = v := by
          rw [Array.getD_eq_getD_getElem?, Array.getElem?_append_left (by simp; omega)]
          simp [hv]
        rw [e]
        cases d with
        | own e k ns => exact hr
        | _ => exact hr
      · rw [h]; trivial
    · intro t i hi
      rcases argFr_get (ds := ds) (t := t) with ⟨d, h1, h2⟩ | h
      · rw [h2, refs_argA] at hi; cases hi
      · rw [h] at hi; cases hi
  refine code_sound hT hC hm rs c _ _ _ id _ w hsim he ?_
  intro ex st ρ a' w' hK hs
  have hend : (∃ i, ex = .exit i) ∨ (nodup (ownIds st fn.results.toList) = true ∧ fn.results.toList.mapM (resD E st) = some rs) := by
    cases ex with
    | exit i => exact .inl ⟨i, rfl⟩
    | _ =>
      simp only [endK] at hK
      cases hn : nodup (ownIds st fn.results.toList) with
      | true => rw [hn] at hK; exact .inr ⟨rfl, hK⟩
      | false => rw [hn] at hK; cases hK
  rcases hend with ⟨i, rfl⟩ | ⟨hn, hrs⟩
  · cases hK
  have key : a'.defers = [] ∧ ∃ v, (results fn a'.tmps).run P w' = .ok v w' ∧ ∃ vs', Ending.returned v = .returned (resV vs') ∧ Below w.heap.size w w' ∧ RepRes Y w.heap.size w' rs vs' := by
    refine ⟨hs.nod, ?_⟩
    obtain ⟨hlen', hall⟩ := mapM_all hrs
    let good (r : ResultVar) (d : D) (v : Value) : Prop := (resRun a' r).run P w' = .ok v w' ∧ Good Y w.heap.size st ρ w' r v d
    have hex : ∀ r, ∃ v, ∀ d, resD E st r = some d → good r d v := by
      intro r
      cases hd : resD E st r with
      | none => exact ⟨undef, fun d h => by cases h⟩
      | some d =>
        obtain ⟨v, h1, h2⟩ := resD_sound hT hs hd
        exact ⟨v, fun d' h => by cases h; exact ⟨h1, h2⟩⟩
    obtain ⟨g, hg'⟩ := Classical.axiomOfChoice hex
    have hg : ∀ r d, r ∈ fn.results.toList → resD E st r = some d → good r d (g r) := fun r d _ hd => hg' r d hd
    have hrun : (fn.results.mapM (resRun a')).run P w' = .ok (fn.results.toList.map g).toArray w' :=
      mapM_run fun r hr => by
        obtain ⟨i, hi⟩ := List.mem_iff_getElem?.1 hr
        obtain ⟨d, _, hd⟩ := hall i r hi
        exact (hg r d hr hd).1
    have hres : (results fn a'.tmps).run P w' = .ok (resV (fn.results.toList.map g)) w' := by
      have e : results fn a'.tmps = (fn.results.mapM (resRun a') >>= fun vs => pure (if h : vs.size = 1 then vs[0] else Value.tuple vs)) := by
        unfold results
        congr 1
      rw [e, Sem.run_bind, hrun, Result.andThen_ok, Sem.run_pure]
      congr 1
      exact oneOf _
    refine ⟨_, hres, _, rfl, hs.below, ?_⟩
    -- the blocks of what is the call's own
    have hat : ∀ (i : Nat) (d : D), rs[i]? = some d → ∃ r, fn.results.toList[i]? = some r ∧ resD E st r = some d ∧ good r d (g r) := by
      intro i d hi
      obtain ⟨r, hr⟩ := getElem?_of_lt (l := fn.results.toList) (i := i) (by have := getElem?_lt hi; omega)
      obtain ⟨d', h1, h2⟩ := hall i r hr
      rw [hi] at h1; cases h1
      exact ⟨r, hr, h2, hg r d (List.mem_of_getElem? hr) h2⟩
    let blk (i : Nat) : Nat := match fn.results.toList[i]? with
      | some r => match ownOf st r with
        | some j => ρ j
        | none => 0
      | none => 0
    have hown : ∀ (i : Nat) (d : D), rs[i]? = some d → isOwn d = true → ∃ r j b, fn.results.toList[i]? = some r ∧ ownOf st r = some j ∧ st.hp j = some b ∧ blk i = ρ j := by
      intro i d hi ho
      obtain ⟨r, h1, h2, h3⟩ := hat i d hi
      cases d with
      | own e k ns =>
        obtain ⟨_, j, h4, ⟨b, h5⟩, _⟩ := h3
        exact ⟨r, j, b, h1, h4, h5, by simp only [blk, h1, h4]⟩
      | _ => cases ho
    refine ⟨blk, by simp [hlen'], ?_, ?_⟩
    · intro i j d d' hi hj ho ho' he'
      obtain ⟨r, k, b, h1, h2, h3, h4⟩ := hown i d hi ho
      obtain ⟨r', k', b', h1', h2', h3', h4'⟩ := hown j d' hj ho'
      rw [h4, h4'] at he'
      have := hs.inj k k' b b' h3 h3' he'
      subst this
      exact ownIds_inj hn h1 h1' h2 h2'
    · intro i d v hi hv
      obtain ⟨r, h1, h2, h3⟩ := hat i d hi
      have e : v = g r := by
        rw [List.getElem?_map, h1] at hv
        exact (Option.some.inj hv).symm
      subst e
      have hl : Later (XO Y ρ st.hp) w' (fun b => Y b ∨ ∃ (j : Nat) (d' : D), rs[j]? = some d' ∧ isOwn d' = true ∧ blk j = b) w' := by
        refine ⟨Nat.le_refl _, fun b _ hx => ⟨rfl, fun hb => hx ?_⟩⟩
        rcases hb with hb | ⟨j, d', hj, ho, rfl⟩
        · exact .inl hb
        · obtain ⟨r', k, b', _, _, h5, h6⟩ := hown j d' hj ho
          exact .inr ⟨k, b', h5, h6.symm⟩
      cases d with
      | own e k ns =>
        obtain ⟨_, j, h4, _, h5⟩ := h3
        have : blk i = ρ j := by simp only [blk, h1, h4]
        simp only
        rw [this]
        exact h5
      | s x => exact RepD.later hl (d := .s x) h3.2
      | rows sz n fr => exact RepD.later hl (d := .rows sz n fr) h3.2
      | agg cs => exact RepD.later hl (d := .agg cs) h3.2
  cases ex with
  | normal => exact key
  | ret => exact key
  | exit i => cases hK

/-- The table of types, off the program. -/
def kindOf (P : Program) : TypeDesc → Option TK
  | .bool => some .bool
  | .int k => some (.int k)
  | .float k => some (.float k)
  | .slice e => some (.slice e)
  | .struct fields => (fields.toList.mapM fun (f : Field) => match P.info? f.type, P.underlying f.type with
    | some fi, some fd => some (f.offset, fi.size, isAggD fd)
    | _, _ => none).map .struct
  | .array len e => match P.info? e, P.underlying e with
    | some ei, some ed => some (.arr len ei.size (isAggD ed))
    | _, _ => none
  | _ => some .other
def tiOf (P : Program) (t : TypeId) : Option TI := match P.info? t, P.underlying t with
  | some i, some d => match i.zero, kindOf P d with
    | some z, some k => some ⟨i.size, i.bytes, z.cells.toList, k⟩
    | _, _ => none
  | _, _ => none
def tiOk (ti : TI) : Bool := Nat.beq ti.zero.length ti.size && ti.zero.all fun v => v.oneCell'

theorem kindOf_ok {P : Program} {d : TypeDesc} {k : TK} (h : kindOf P d = some k) : KindOk P k d := by
  unfold kindOf at h
  split at h
  · cases h; rfl
  · cases h; rfl
  · cases h; rfl
  · cases h; rfl
  · rename_i fields
    cases hm : (fields.toList.mapM fun (f : Field) => match P.info? f.type, P.underlying f.type with
      | some fi, some fd => some (f.offset, fi.size, isAggD fd)
      | _, _ => none) with
    | none => rw [hm] at h; cases h
    | some fs =>
      rw [hm] at h
      cases h
      obtain ⟨h1, h2⟩ := mapM_all hm
      refine ⟨fields, rfl, by simpa using h1, fun i f hf => ?_⟩
      obtain ⟨y, e1, e2⟩ := h2 i f (by simpa using hf)
      split at e2
      · rename_i fi fd hfi hfd
        cases e2
        exact ⟨fi, fd, hfi, hfd, e1⟩
      · cases e2
  · rename_i len e
    split at h
    · rename_i ei ed hei hed
      cases h
      exact ⟨e, ei, ed, rfl, hei, rfl, hed, rfl⟩
    · cases h
  · rename_i h1 h2 h3 h4 h5 h6
    cases h
    show isAggD d = false
    cases d <;> first | rfl | (exfalso; exact h5 _ rfl) | (exfalso; exact h6 _ _ rfl)

theorem tyOk1_of {P : Program} {t : TypeId} {ti : TI} (h : tiOf P t = some ti) (hk : tiOk ti = true) : TyOk1 P t ti := by
  unfold tiOf at h
  split at h
  · rename_i i d hi hd
    split at h
    · rename_i z k hz hkd
      cases h
      unfold tiOk at hk
      simp only [Bool.and_eq_true] at hk
      exact { i := ⟨i, hi, rfl, rfl, z, hz, rfl⟩, zl := Nat.eq_of_beq_eq_true hk.1, zo := fun v hv => List.all_eq_true.1 hk.2 v hv, d := ⟨d, hd, kindOf_ok hkd⟩ }
    · cases h
  · cases h

def tlook {α : Type} : List (Nat × α) → Nat → Option α
  | [], _ => none
  | p :: r, t => bif Nat.beq p.1 t then some p.2 else tlook r t
theorem tlook_mem {α : Type} : ∀ {l : List (Nat × α)} {t : Nat} {x : α}, tlook l t = some x → (t, x) ∈ l
  | [], t, x, h => by cases h
  | p :: r, t, x, h => by
    simp only [tlook] at h
    cases hb : Nat.beq p.1 t with
    | true =>
      rw [hb] at h
      cases h
      have := Nat.eq_of_beq_eq_true hb
      subst this
      exact List.mem_cons_self ..
    | false => rw [hb] at h; exact List.mem_cons_of_mem _ (tlook_mem h)

theorem tyOk_of {P : Program} (tbl : List (Nat × TI)) (h : tbl.map (fun p => tiOf P p.1) = tbl.map fun p => some p.2) (hk : (tbl.all fun p => tiOk p.2) = true) : TyOk P (tlook tbl) := by
  intro t ti ht
  have hm := tlook_mem ht
  have h1 : tiOf P t = some ti := by
    have := List.map_inj_left.1 h (t, ti) hm
    exact this
  exact tyOk1_of h1 (List.all_eq_true.1 hk (t, ti) hm)

end Go.Proofs.Ytnhebddoclhnnaa.AI

/- A piece of code comes to one end: what follows it takes that. So a loop is its first round and the loop again. -/
namespace Go.Proofs.Ytnhebddoclhnnaa.AI
open Go Go.RowKit

theorem opsK_bind {R : Type} (E : Env) (draw : Bool) (ops : Array Oper) (base : Nat) : ∀ (rest : List Oper) (i : Nat) (recs : List Rec) (st : St) (K : St → Option R),
    opsK E draw ops base rest i recs st K = (opsK E draw ops base rest i recs st some).bind K
  | [], i, recs, st, K => rfl
  | o :: rest, i, recs, st, K => by
    unfold opsK
    cases (dstOk E.nt o && (!draw || edgesOk i o)) with
    | false => rfl
    | true =>
      simp only [cond_true]
      split
      · rw [effK_bind, effK_bind]
        cases eff E (base + 8 * i) o (evA E st.fr) st.hp with
        | none => rfl
        | some p =>
          simp only [Option.bind_some]
          cases (!draw || recs.all fun r => indep ops r i o (touches o (evA E st.fr) p.2) (p.2.map (·.1))) with
          | false => rfl
          | true => exact opsK_bind E draw ops base rest (i + 1) _ _ K
      · split
        · split
          · rename_i want _ _ d _ _ b _
            cases b with
            | true =>
              simp only [cond_true]
              cases (true == want) with
              | true =>
                simp only [cond_true]
                rw [effK_bind, effK_bind]
                cases eff E (base + 8 * i) o (evA E (upd st.fr d (scv (.bool true)))) st.hp with
                | none => rfl
                | some p =>
                  simp only [Option.bind_some]
                  cases (!draw || recs.all fun r => indep ops r i o (touches o (evA E (upd st.fr d (scv (.bool true)))) p.2) (p.2.map (·.1))) with
                  | false => rfl
                  | true => exact opsK_bind E draw ops base rest (i + 1) _ _ K
              | false =>
                simp only [cond_false]
                cases (!draw || recs.all fun r => indep ops r i o [] []) with
                | false => rfl
                | true => exact opsK_bind E draw ops base rest (i + 1) _ _ K
            | false =>
              simp only [cond_false]
              cases (false == want) with
              | true =>
                simp only [cond_true]
                rw [effK_bind, effK_bind]
                cases eff E (base + 8 * i) o (evA E (upd st.fr d (scv (.bool false)))) st.hp with
                | none => rfl
                | some p =>
                  simp only [Option.bind_some]
                  cases (!draw || recs.all fun r => indep ops r i o (touches o (evA E (upd st.fr d (scv (.bool false)))) p.2) (p.2.map (·.1))) with
                  | false => rfl
                  | true => exact opsK_bind E draw ops base rest (i + 1) _ _ K
              | false =>
                simp only [cond_false]
                cases (!draw || recs.all fun r => indep ops r i o [] []) with
                | false => rfl
                | true => exact opsK_bind E draw ops base rest (i + 1) _ _ K
          · cases (!draw || recs.all fun r => indep ops r i o [] []) with
            | false => rfl
            | true => exact opsK_bind E draw ops base rest (i + 1) _ _ K
          · rfl
        · rfl

section
variable (keep : List Nat) (f : St → Option (Ex × St))
/-- The rounds of a loop, n at most. -/
def runs : Nat → List KV → Option (Ex × St)
  | 0, _ => none
  | n + 1, l => (f (mk keep l)).bind fun p => match p.1 with
    | .normal => runs n (canon keep p.2)
    | .exit i => some (.exit i, p.2)
    | .ret => some (.ret, p.2)

theorem runs_mono : ∀ (n k : Nat) (l : List KV) (p : Ex × St), runs keep f n l = some p → runs keep f (n + k) l = some p
  | 0, _, _, _, h => by cases h
  | n + 1, k, l, p, h => by
    rw [Nat.add_right_comm]
    simp only [runs] at h ⊢
    cases hf : f (mk keep l) with
    | none => rw [hf] at h; cases h
    | some q =>
      rw [hf] at h
      simp only [Option.bind_some] at h ⊢
      obtain ⟨ex, st⟩ := q
      cases ex with
      | normal => exact runs_mono n k _ p h
      | exit i => exact h
      | ret => exact h

theorem runs_one {n m : Nat} {l : List KV} {p q : Ex × St} (h : runs keep f n l = some p) (h' : runs keep f m l = some q) : p = q := by
  have h1 := runs_mono keep f n m l p h
  have h2 := runs_mono keep f m n l q h'
  rw [Nat.add_comm m n, h1] at h2
  exact Option.some.inj h2

open Classical in
/-- Where the rounds come to an end: that end. -/
noncomputable def lim (l : List KV) : Option (Ex × St) := if h : ∃ p, ∃ n, runs keep f n l = some p then some (Classical.choose h) else none

theorem lim_of {n : Nat} {l : List KV} {p : Ex × St} (h : runs keep f n l = some p) : lim keep f l = some p := by
  unfold lim
  have hex : ∃ p, ∃ n, runs keep f n l = some p := ⟨p, n, h⟩
  rw [dif_pos hex]
  obtain ⟨m, hm⟩ := Classical.choose_spec hex
  rw [runs_one keep f hm h]

theorem of_lim {l : List KV} {p : Ex × St} (h : lim keep f l = some p) : ∃ n, runs keep f n l = some p := by
  unfold lim at h
  split at h
  · rename_i hex; cases h; exact Classical.choose_spec hex
  · cases h

theorem lim_eq (l : List KV) : lim keep f l = (f (mk keep l)).bind fun p => match p.1 with
    | .normal => lim keep f (canon keep p.2)
    | .exit i => some (.exit i, p.2)
    | .ret => some (.ret, p.2) := by
  cases hf : f (mk keep l) with
  | none =>
    cases hl : lim keep f l with
    | none => rfl
    | some p =>
      obtain ⟨n, hn⟩ := of_lim keep f hl
      cases n with
      | zero => cases hn
      | succ n => simp only [runs, hf] at hn; cases hn
  | some q =>
    obtain ⟨ex, st⟩ := q
    simp only [Option.bind_some]
    cases ex with
    | normal =>
      simp only
      cases hl : lim keep f (canon keep st) with
      | some p =>
        obtain ⟨n, hn⟩ := of_lim keep f hl
        exact lim_of keep f (n := n + 1) (by simp only [runs, hf, Option.bind_some]; exact hn)
      | none =>
        cases hl' : lim keep f l with
        | none => rfl
        | some p =>
          obtain ⟨n, hn⟩ := of_lim keep f hl'
          cases n with
          | zero => cases hn
          | succ n =>
            simp only [runs, hf, Option.bind_some] at hn
            rw [lim_of keep f hn] at hl
            cases hl
    | exit i => exact lim_of keep f (n := 1) (by simp only [runs, hf, Option.bind_some])
    | ret => exact lim_of keep f (n := 1) (by simp only [runs, hf, Option.bind_some])

/-- A round that is told by f. -/
def gOf {R : Type} (K : Ex → St → Option R) (rec : List KV → Option R) (l : List KV) : Option R :=
  (f (mk keep l)).bind fun p => match p.1 with
    | .normal => rec (canon keep p.2)
    | .exit i => K (.exit i) p.2
    | .ret => K .ret p.2

theorem iter_runs {R : Type} (K : Ex → St → Option R) : ∀ (n : Nat) (l : List KV), iter (gOf keep f K) n l = (runs keep f n l).bind fun p => K p.1 p.2
  | 0, _ => rfl
  | n + 1, l => by
    simp only [iter, gOf, runs]
    cases f (mk keep l) with
    | none => rfl
    | some q =>
      obtain ⟨ex, st⟩ := q
      simp only [Option.bind_some]
      cases ex with
      | normal => exact iter_runs K n _
      | exit i => rfl
      | ret => rfl

theorem fix_lim {R : Type} (K : Ex → St → Option R) (l : List KV) : fix (gOf keep f K) l = (lim keep f l).bind fun p => K p.1 p.2 := by
  cases hl : lim keep f l with
  | none =>
    unfold fix
    rw [dif_neg]
    · rfl
    · rintro ⟨r, n, h⟩
      rw [iter_runs] at h
      cases hr : runs keep f n l with
      | none => rw [hr] at h; cases h
      | some p => rw [lim_of keep f hr] at hl; cases hl
  | some p =>
    obtain ⟨n, hn⟩ := of_lim keep f hl
    simp only [Option.bind_some]
    cases hK : K p.1 p.2 with
    | some r =>
      unfold fix
      have hex : ∃ r, ∃ n, iter (gOf keep f K) n l = some r := ⟨r, n, by rw [iter_runs, hn]; exact hK⟩
      rw [dif_pos hex]
      obtain ⟨m, hm⟩ := Classical.choose_spec hex
      rw [iter_runs] at hm
      cases hr : runs keep f m l with
      | none => rw [hr] at hm; cases hm
      | some q =>
        rw [hr, runs_one keep f hr hn] at hm
        simp only [Option.bind_some] at hm
        rw [hK] at hm
        exact hm.symm
    | none =>
      unfold fix
      rw [dif_neg]
      rintro ⟨r, m, h⟩
      rw [iter_runs] at h
      cases hr : runs keep f m l with
      | none => rw [hr] at h; cases h
      | some q =>
        rw [hr, runs_one keep f hr hn] at h
        simp only [Option.bind_some] at h
        rw [hK] at h
        cases h

theorem fix_gOf {R : Type} (K : Ex → St → Option R) (l : List KV) : fix (gOf keep f K) l = gOf keep f K (fix (gOf keep f K)) l := by
  rw [fix_lim, lim_eq]
  unfold gOf
  cases f (mk keep l) with
  | none => rfl
  | some q =>
    obtain ⟨ex, st⟩ := q
    simp only [Option.bind_some]
    cases ex with
    | normal => exact (fix_lim keep f K _).symm
    | exit i => rfl
    | ret => rfl
end

def condSt (c : Operand) (st : St) : Option (Bool × St) := match c with
  | .tmp s => match st.fr s with
    | .v (.one (.s (.sc (.bool t)))) => some (t, ⟨upd st.fr s (scv (.bool t)), st.hp, st.n⟩)
    | _ => none
  | .const (.bool t) => some (t, st)
  | _ => none
theorem cond_condSt {R : Type} (E : Env) (c : Operand) (a b : Code) (st : St) (K : Ex → St → Option R) : evalCode E (.cond c a b) st K = (condSt c st).bind fun p => bif p.1 then evalCode E a p.2 K else evalCode E b p.2 K := by
  cases c with
  | tmp s =>
    simp only [evalCode, condSt]
    split
    · rename_i t h
      simp only [h, Option.bind_some]
      cases t <;> rfl
    · rename_i h
      split
      · rename_i t h'; exact (h t h').elim
      · rfl
  | const v => cases v <;> simp only [evalCode, condSt] <;> rfl
  | _ => simp only [evalCode, condSt]; rfl

theorem evalCode_bind (E : Env) (c : Code) : ∃ f : St → Option (Ex × St), ∀ (st : St) {R : Type} (K : Ex → St → Option R), evalCode E c st K = (f st).bind fun p => K p.1 p.2 := by
  induction c with
  | skip => exact ⟨fun st => some (.normal, st), fun st R K => rfl⟩
  | label l => exact ⟨fun st => some (.normal, st), fun st R K => rfl⟩
  | exit id => exact ⟨fun st => some (.exit id, st), fun st R K => rfl⟩
  | ret => exact ⟨fun st => some (.ret, st), fun st R K => rfl⟩
  | region id ops draw =>
    refine ⟨fun st => (opsK E draw ops st.n ops.toList 0 [] st some).bind fun st' => some (.normal, ⟨st'.fr, st'.hp, st.n + 8 * ops.size⟩), fun st R K => ?_⟩
    unfold evalCode
    rw [opsK_bind]
    simp only []
    cases opsK E draw ops st.n ops.toList 0 [] st some <;> rfl
  | seq a b iha ihb =>
    obtain ⟨f, hf⟩ := iha
    obtain ⟨g, hg⟩ := ihb
    refine ⟨fun st => (f st).bind fun p => match p.1 with
      | .normal => match E.cut (keyOf b) with
        | some keep => g (mk keep (canon keep p.2))
        | none => g p.2
      | .exit i => some (.exit i, p.2)
      | .ret => some (.ret, p.2), fun st R K => ?_⟩
    unfold evalCode
    rw [hf]
    simp only []
    cases f st with
    | none => rfl
    | some q =>
      obtain ⟨ex, st'⟩ := q
      cases ex with
      | normal =>
        simp only [Option.bind_some]
        cases E.cut (keyOf b) with
        | none => exact hg st' K
        | some keep => exact hg _ K
      | exit i => rfl
      | ret => rfl
  | cond cd a b iha ihb =>
    obtain ⟨f, hf⟩ := iha
    obtain ⟨g, hg⟩ := ihb
    refine ⟨fun st => (condSt cd st).bind fun p => bif p.1 then f p.2 else g p.2, fun st R K => ?_⟩
    rw [cond_condSt]
    simp only []
    cases condSt cd st with
    | none => rfl
    | some p =>
      obtain ⟨t, st'⟩ := p
      cases t with
      | true => exact hf _ K
      | false => exact hg _ K
  | block id c ih =>
    obtain ⟨f, hf⟩ := ih
    refine ⟨fun st => (f st).bind fun p => match p.1 with
      | .normal => some (.normal, p.2)
      | .exit i => bif Nat.beq i id then some (.normal, p.2) else some (.exit i, p.2)
      | .ret => some (.ret, p.2), fun st R K => ?_⟩
    unfold evalCode
    rw [hf]
    simp only []
    cases f st with
    | none => rfl
    | some q =>
      obtain ⟨ex, st'⟩ := q
      cases ex with
      | normal => rfl
      | exit i =>
        simp only [Option.bind_some]
        cases Nat.beq i id <;> rfl
      | ret => rfl
  | loop c ih =>
    obtain ⟨f, hf⟩ := ih
    have hG : ∀ {R : Type} (keep : List Nat) (K : Ex → St → Option R), (fun (rec : List KV → Option R) l => evalCode E c (mk keep l) fun ex st' => match ex with
        | .normal => rec (canon keep st')
        | .exit i => K (.exit i) st'
        | .ret => K .ret st') = gOf keep f K := by
      intro R keep K
      funext rec l
      rw [hf]
      unfold gOf
      cases f (mk keep l) with
      | none => rfl
      | some q => obtain ⟨ex, st'⟩ := q; cases ex <;> rfl
    refine ⟨fun st => match E.roll (keyOf c) with
      | some n => runs (E.keep (keyOf c)) f n (canon (E.keep (keyOf c)) st)
      | none => lim (E.keep (keyOf c)) f (canon (E.keep (keyOf c)) st), fun st R K => ?_⟩
    simp only [evalCode]
    cases E.roll (keyOf c) with
    | some n => exact (congrArg (fun G => iter G n (canon (E.keep (keyOf c)) st)) (hG _ K)).trans (iter_runs _ _ _ _ _)
    | none => exact (congrArg (fun G => fix G (canon (E.keep (keyOf c)) st)) (hG _ K)).trans (fix_lim _ _ _ _)
  | rangeFunc f ps x y _ _ => exact ⟨fun _ => none, fun st R K => rfl⟩
  | scope c _ => exact ⟨fun _ => none, fun st R K => rfl⟩
  | goto l => exact ⟨fun _ => none, fun st R K => rfl⟩
  | refuse why => exact ⟨fun _ => none, fun st R K => rfl⟩

/-- A LOOP IS ITS FIRST ROUND AND THE LOOP AGAIN. -/
theorem loop_eq {R : Type} (E : Env) (keep : List Nat) (c : Code) (K : Ex → St → Option R) (l : List KV) :
    fix (roundOf (evalCode E) keep c K) l = roundOf (evalCode E) keep c K (fix (roundOf (evalCode E) keep c K)) l := by
  obtain ⟨f, hf⟩ := evalCode_bind E c
  have hG : roundOf (evalCode E) keep c K = gOf keep f K := by
    funext rec l
    unfold roundOf
    rw [hf]
    unfold gOf
    cases f (mk keep l) with
    | none => rfl
    | some q => obtain ⟨ex, st'⟩ := q; cases ex <;> rfl
  rw [hG]
  exact fix_gOf keep f K l

/-- A loop of a function, by its name, from what its head keeps. -/
noncomputable def loopAt (E : Env) (fn : Func) (c : Code) (key : Nat) (l : List KV) : Option (List D) :=
  match findLoop E key c (endK E fn) with
  | some (b, K) => fix (roundOf (evalCode E) (E.keep key) b K) l
  | none => none
noncomputable def roundAt (E : Env) (fn : Func) (c : Code) (key : Nat) (l : List KV) : Option (List D) :=
  match findLoop E key c (endK E fn) with
  | some (b, K) => roundOf (evalCode E) (E.keep key) b K (fix (roundOf (evalCode E) (E.keep key) b K)) l
  | none => none
theorem loopAt_eq (E : Env) (fn : Func) (c : Code) (key : Nat) (l : List KV) : loopAt E fn c key l = roundAt E fn c key l := by
  unfold loopAt roundAt
  cases findLoop E key c (endK E fn) with
  | none => rfl
  | some p => exact loop_eq E _ p.1 p.2 l

/-- What follows a cut of a function, from what is kept there. -/
noncomputable def cutAt (E : Env) (fn : Func) (c : Code) (key : Nat) (l : List KV) : Option (List D) :=
  match findCut E key c (endK E fn), E.cut key with
  | some (b, K), some keep => cutHere key l fun l => evalCode E b (mk keep l) K
  | _, _ => none

noncomputable def cutOpen (E : Env) (fn : Func) (c : Code) (key : Nat) (l : List KV) : Option (List D) :=
  match findCut E key c (endK E fn), E.cut key with
  | some (b, K), some keep => evalCode E b (mk keep l) K
  | _, _ => none
theorem cutAt_eq (E : Env) (fn : Func) (c : Code) (key : Nat) (l : List KV) : cutAt E fn c key l = cutOpen E fn c key l := by
  unfold cutAt cutOpen cutHere
  rfl

end Go.Proofs.Ytnhebddoclhnnaa.AI

/- Tables of contracts. -/
namespace Go.Proofs.Ytnhebddoclhnnaa.AI
open Go Go.RowKit

theorem Contract.of {P : Program} {G : Nat → Option (IntKind × List Int)} {f : FuncId} {ds ds' rs : List D} (h : Contract P G f ds' rs) (hl : ds.length = ds'.length)
    (hd : ∀ (i : Nat) (d d' : D), ds[i]? = some d → ds'[i]? = some d' → ∀ (Y : Nat → Prop) (w : World) (v : Value), RepD Y w d v → RepD Y w d' v) : Contract P G f ds rs := by
  intro Y w vs hY hG hlen hargs
  refine h Y w vs hY hG (by omega) fun i d' v hi hv => ?_
  obtain ⟨d, hd'⟩ := getElem?_of_lt (l := ds) (i := i) (by have := getElem?_lt hi; omega)
  exact hd i d d' hd' hi Y w v (hargs i d v hd' hv)

/-- Numbers of a slice that is handed over: of a nil one: none. -/
def dI (k : IntKind) : D → Option (List Int)
  | .s (.ints k' ns) => if _h : k = k' then some ns else none
  | .s (.sc (.slice none 0 0)) => some []
  | _ => none
def dN (k : IntKind) : D → Option Int
  | .s (.sc (.int k' n)) => if _h : k = k' then some n else none
  | _ => none
def dB : D → Option Bool
  | .s (.sc (.bool b)) => some b
  | _ => none

def DLe (d d' : D) : Prop := ∀ (Y : Nat → Prop) (w : World) (v : Value), RepD Y w d v → RepD Y w d' v
theorem DLe.refl (d : D) : DLe d d := fun _ _ _ h => h
theorem dI_le {k : IntKind} {d : D} {ns : List Int} (h : dI k d = some ns) : DLe d (.s (.ints k ns)) := by
  intro Y w v hr
  unfold dI at h
  split at h
  · split at h
    · rename_i hk; cases h; subst hk; exact hr
    · cases h
  · cases h
    obtain ⟨rfl, _⟩ := hr
    exact ⟨none, 0, rfl, Nat.le_refl _, fun i n hn => by simp at hn⟩
  · cases h
theorem dN_eq {k : IntKind} {d : D} {n : Int} (h : dN k d = some n) : d = .s (.sc (.int k n)) := by
  unfold dN at h
  split at h
  · split at h
    · rename_i hk; cases h; subst hk; rfl
    · cases h
  · cases h
theorem dN_le {k : IntKind} {d : D} {n : Int} (h : dN k d = some n) : DLe d (.s (.sc (.int k n))) := by rw [dN_eq h]; exact DLe.refl _
theorem dB_eq {d : D} {b : Bool} (h : dB d = some b) : d = .s (.sc (.bool b)) := by
  unfold dB at h
  split at h
  · cases h; rfl
  · cases h
theorem dB_le {d : D} {b : Bool} (h : dB d = some b) : DLe d (.s (.sc (.bool b))) := by rw [dB_eq h]; exact DLe.refl _

theorem Contract.of1 {P : Program} {G : Nat → Option (IntKind × List Int)} {f : FuncId} {d d' : D} {rs : List D} (h : Contract P G f [d'] rs) (hd : DLe d d') : Contract P G f [d] rs :=
  h.of rfl fun i x x' hx hx' => by
    match i with
    | 0 => simp at hx hx'; subst hx; subst hx'; exact hd
    | i + 1 => simp at hx
theorem Contract.of2 {P : Program} {G : Nat → Option (IntKind × List Int)} {f : FuncId} {d d' e e' : D} {rs : List D} (h : Contract P G f [d', e'] rs) (hd : DLe d d') (he : DLe e e') : Contract P G f [d, e] rs :=
  h.of rfl fun i x x' hx hx' => by
    match i with
    | 0 => simp at hx hx'; subst hx; subst hx'; exact hd
    | 1 => simp at hx hx'; subst hx; subst hx'; exact he
    | i + 2 => simp at hx
theorem Contract.of3 {P : Program} {G : Nat → Option (IntKind × List Int)} {f : FuncId} {d d' e e' g g' : D} {rs : List D} (h : Contract P G f [d', e', g'] rs) (hd : DLe d d') (he : DLe e e') (hg : DLe g g') : Contract P G f [d, e, g] rs :=
  h.of rfl fun i x x' hx hx' => by
    match i with
    | 0 => simp at hx hx'; subst hx; subst hx'; exact hd
    | 1 => simp at hx hx'; subst hx; subst hx'; exact he
    | 2 => simp at hx hx'; subst hx; subst hx'; exact hg
    | i + 3 => simp at hx
theorem Contract.of4 {P : Program} {G : Nat → Option (IntKind × List Int)} {f : FuncId} {d d' e e' g g' k k' : D} {rs : List D} (h : Contract P G f [d', e', g', k'] rs) (hd : DLe d d') (he : DLe e e') (hg : DLe g g') (hk : DLe k k') : Contract P G f [d, e, g, k] rs :=
  h.of rfl fun i x x' hx hx' => by
    match i with
    | 0 => simp at hx hx'; subst hx; subst hx'; exact hd
    | 1 => simp at hx hx'; subst hx; subst hx'; exact he
    | 2 => simp at hx hx'; subst hx; subst hx'; exact hg
    | 3 => simp at hx hx'; subst hx; subst hx'; exact hk
    | i + 4 => simp at hx

/-- What a function is known to answer: where 'g' holds, 'rs'. -/
abbrev Orc := List D → Option (Prop × List D)
def OrcOk (P : Program) (G : Nat → Option (IntKind × List Int)) (f : FuncId) (o : Orc) : Prop :=
  ∀ ds g rs, o ds = some (g, rs) → g → Contract P G f ds rs ∧ HasBody P f
def callsOf (tbl : List (Nat × Orc)) (f : FuncId) (ds : List D) : Option (Prop × List D) := match tlook tbl f with
  | some o => o ds
  | none => none
theorem callsOk_of {P : Program} {E : Env} (tbl : List (Nat × Orc)) (hC : E.C = callsOf tbl) (h : ∀ p ∈ tbl, OrcOk P E.glob p.1 p.2)
    (hx : ∀ f vs g rs, E.ext f vs = some (g, rs) → g → (∀ v ∈ rs, v.oneCell' = true) ∧ ∀ w, (callFunc f vs.toArray).run P w = .ok (.value (resV rs)) w) : CallsOk P E := by
  refine ⟨fun f ds g rs he hg => ?_, hx⟩
  rw [hC] at he
  unfold callsOf at he
  split at he
  · rename_i o ho
    exact h _ (tlook_mem ho) ds g rs he hg
  · cases he

theorem orcs_nil {P : Program} {G : Nat → Option (IntKind × List Int)} : ∀ p ∈ ([] : List (Nat × Orc)), OrcOk P G p.1 p.2 := fun _ h => by cases h
theorem orcs_cons {P : Program} {G : Nat → Option (IntKind × List Int)} {f : Nat} {o : Orc} {tbl : List (Nat × Orc)} (h : OrcOk P G f o) (ht : ∀ p ∈ tbl, OrcOk P G p.1 p.2) : ∀ p ∈ (f, o) :: tbl, OrcOk P G p.1 p.2 := by
  intro p hp
  rcases List.mem_cons.1 hp with rfl | hp
  · exact h
  · exact ht p hp

/-- No function without a Go text is known. -/
def ExtOk (P : Program) (ext : FuncId → List Value → Option (Prop × List Value)) : Prop := ∀ f vs g rs, ext f vs = some (g, rs) → g → (∀ v ∈ rs, v.oneCell' = true) ∧ ∀ w, (callFunc f vs.toArray).run P w = .ok (.value (resV rs)) w
theorem noExt {P : Program} {E : Env} (h : E.ext = fun _ _ => none) : ∀ f vs g rs, E.ext f vs = some (g, rs) → g → (∀ v ∈ rs, v.oneCell' = true) ∧ ∀ w, (callFunc f vs.toArray).run P w = .ok (.value (resV rs)) w := by
  intro f vs g rs he
  rw [h] at he
  cases he

end Go.Proofs.Ytnhebddoclhnnaa.AI

/- The same reckoning, where loops and cuts are met by name alone. -/
namespace Go.Proofs.Ytnhebddoclhnnaa.AI
open Go Go.RowKit

section
variable {R : Type} (E : Env) (J L : Nat → List KV → Option R)

noncomputable def evalJ : Code → St → (Ex → St → Option R) → Option R
  | .skip, st, K => K .normal st
  | .label _, st, K => K .normal st
  | .region _ ops draw, st, K => opsK E draw ops st.n ops.toList 0 [] st fun st' => K .normal ⟨st'.fr, st'.hp, st.n + 8 * ops.size⟩
  | .seq a b, st, K => evalJ a st fun ex st' => match ex with
    | .normal => match E.cut (keyOf b) with
      | some keep => J (keyOf b) (canon keep st')
      | none => evalJ b st' K
    | .exit i => K (.exit i) st'
    | .ret => K .ret st'
  | .cond c a b, st, K => match c with
    | .tmp s => match st.fr s with
      | .v (.one (.s (.sc (.bool t)))) => bcase t (evalJ a ⟨upd st.fr s (scv (.bool true)), st.hp, st.n⟩ K) (evalJ b ⟨upd st.fr s (scv (.bool false)), st.hp, st.n⟩ K)
      | _ => none
    | .const (.bool t) => bcase t (evalJ a st K) (evalJ b st K)
    | _ => none
  | .block id c, st, K => evalJ c st fun ex st' => match ex with
    | .normal => K .normal st'
    | .exit i => bif Nat.beq i id then K .normal st' else K (.exit i) st'
    | .ret => K .ret st'
  | .exit id, st, K => K (.exit id) st
  | .ret, st, K => K .ret st
  | .loop c, st, _ => L (keyOf c) (canon (E.keep (keyOf c)) st)
  | _, _, _ => none

/-- What comes behind the first of two. -/
noncomputable def seqKJ (b : Code) (K : Ex → St → Option R) (ex : Ex) (st' : St) : Option R := match ex with
  | .normal => match E.cut (keyOf b) with
    | some keep => J (keyOf b) (canon keep st')
    | none => evalJ E J L b st' K
  | .exit i => K (.exit i) st'
  | .ret => K .ret st'
/-- What comes behind a loop's round. -/
noncomputable def loopKJ (c : Code) (K : Ex → St → Option R) (ex : Ex) (st' : St) : Option R := match ex with
  | .normal => L (keyOf c) (canon (E.keep (keyOf c)) st')
  | .exit i => K (.exit i) st'
  | .ret => K .ret st'
noncomputable def findLoopJ (key : Nat) : Code → (Ex → St → Option R) → Option (Code × (Ex → St → Option R))
  | .seq a b, K => (findLoopJ key a (seqKJ E J L b K)).or (findLoopJ key b K)
  | .cond _ a b, K => (findLoopJ key a K).or (findLoopJ key b K)
  | .block id c, K => findLoopJ key c (blockK id K)
  | .loop c, K => bif Nat.beq (keyOf c) key then some (c, K) else findLoopJ key c (loopKJ E L c K)
  | _, _ => none
noncomputable def findCutJ (key : Nat) : Code → (Ex → St → Option R) → Option (Code × (Ex → St → Option R))
  | .seq a b, K => bif Nat.beq (keyOf b) key then some (b, K) else (findCutJ key a (seqKJ E J L b K)).or (findCutJ key b K)
  | .cond _ a b, K => (findCutJ key a K).or (findCutJ key b K)
  | .block id c, K => findCutJ key c (blockK id K)
  | .loop c, K => findCutJ key c (loopKJ E L c K)
  | _, _ => none
end

/-- The names of loops; of cuts. -/
def loopKeys : Code → List Nat
  | .seq a b => loopKeys a ++ loopKeys b
  | .cond _ a b => loopKeys a ++ loopKeys b
  | .block _ c => loopKeys c
  | .loop c => keyOf c :: loopKeys c
  | _ => []
def cutKeys (E : Env) : Code → List Nat
  | .seq a b => (match E.cut (keyOf b) with | some _ => [keyOf b] | none => []) ++ (cutKeys E a ++ cutKeys E b)
  | .cond _ a b => cutKeys E a ++ cutKeys E b
  | .block _ c => cutKeys E c
  | .loop c => cutKeys E c
  | _ => []

theorem nodup_iff : ∀ {xs : List Nat}, nodup xs = true ↔ xs.Nodup
  | [] => by simp [nodup]
  | x :: xs => by
    have ih := nodup_iff (xs := xs)
    simp only [nodup, Bool.and_eq_true, Bool.not_eq_true', List.nodup_cons, ih]
    constructor
    · rintro ⟨h1, h2⟩
      refine ⟨fun hm => ?_, h2⟩
      have : xs.elem x = true := List.elem_eq_true_of_mem hm
      rw [this] at h1; cases h1
    · rintro ⟨h1, h2⟩
      refine ⟨?_, h2⟩
      cases hb : xs.elem x with
      | false => rfl
      | true => exact (h1 (List.mem_of_elem_eq_true hb)).elim

section
variable {R : Type} (E : Env)

theorem findLoop_keys (key : Nat) : ∀ (c : Code) (K : Ex → St → Option R), (findLoop E key c K).isSome = true ↔ key ∈ loopKeys c := by
  intro c
  induction c with
  | seq a b iha ihb =>
    intro K
    simp only [findLoop, loopKeys, List.mem_append, Option.isSome_or, Bool.or_eq_true, iha, ihb]
  | cond cd a b iha ihb =>
    intro K
    simp only [findLoop, loopKeys, List.mem_append, Option.isSome_or, Bool.or_eq_true, iha, ihb]
  | block id c ih => intro K; simp only [findLoop, loopKeys, ih]
  | loop c ih =>
    intro K
    simp only [findLoop, loopKeys, List.mem_cons]
    cases hb : Nat.beq (keyOf c) key with
    | true => simp [(Nat.eq_of_beq_eq_true hb)]
    | false =>
      have : key ≠ keyOf c := fun h => by subst h; rw [Nat.beq_refl] at hb; cases hb
      simp only [cond_false, ih, this, false_or]
  | _ => intro K; simp [findLoop, loopKeys]

theorem cutKeys_some {key : Nat} : ∀ {c : Code}, key ∈ cutKeys E c → (E.cut key).isSome = true := by
  intro c
  induction c with
  | seq a b iha ihb =>
    intro h
    simp only [cutKeys, List.mem_append] at h
    rcases h with h | h | h
    · split at h
      · rename_i keep hk; simp at h; subst h; rw [hk]; rfl
      · cases h
    · exact iha h
    · exact ihb h
  | cond cd a b iha ihb =>
    intro h
    simp only [cutKeys, List.mem_append] at h
    exact h.elim iha ihb
  | block id c ih => intro h; exact ih h
  | loop c ih => intro h; exact ih h
  | _ => intro h; simp [cutKeys] at h

theorem findCut_keys {key : Nat} (hk : (E.cut key).isSome = true) : ∀ (c : Code) (K : Ex → St → Option R), (findCut E key c K).isSome = true ↔ key ∈ cutKeys E c := by
  intro c
  induction c with
  | seq a b iha ihb =>
    intro K
    simp only [findCut, cutKeys, List.mem_append]
    cases hb : Nat.beq (keyOf b) key with
    | true =>
      have := Nat.eq_of_beq_eq_true hb
      subst this
      cases hc : E.cut (keyOf b) with
      | none => rw [hc] at hk; cases hk
      | some x => simp
    | false =>
      have hn : key ≠ keyOf b := fun h => by subst h; rw [Nat.beq_refl] at hb; cases hb
      simp only [cond_false, Option.isSome_or, Bool.or_eq_true, iha, ihb]
      constructor
      · intro h; exact .inr h
      · rintro (h | h)
        · split at h
          · simp at h; exact (hn h).elim
          · cases h
        · exact h
  | cond cd a b iha ihb =>
    intro K
    simp only [findCut, cutKeys, List.mem_append, Option.isSome_or, Bool.or_eq_true, iha, ihb]
  | block id c ih => intro K; simp only [findCut, cutKeys, ih]
  | loop c ih => intro K; simp only [findCut, cutKeys, ih]
  | _ => intro K; simp [findCut, cutKeys]

theorem or_left {α : Type} {x y : Option α} (h : x.isSome = true) : x.or y = x := by cases x <;> simp_all
theorem or_right {α : Type} {x y : Option α} (h : ¬ x.isSome = true) : x.or y = y := by cases x <;> simp_all

/-- What lies at a place of a text is found by its names from the text's head. -/
structure Sub (c0 : Code) (K0 : Ex → St → Option R) (c : Code) (K : Ex → St → Option R) : Prop where
  lp : ∀ key, key ∈ loopKeys c → findLoop E key c0 K0 = findLoop E key c K
  ct : ∀ key, key ∈ cutKeys E c → findCut E key c0 K0 = findCut E key c K
  dl : (loopKeys c).Nodup
  dc : (cutKeys E c).Nodup

variable {E} {c0 : Code} {K0 : Ex → St → Option R}
theorem Sub.seq1 {a b : Code} {K : Ex → St → Option R} (h : Sub E c0 K0 (.seq a b) K) : Sub E c0 K0 a (seqK E b K) := by
  have hl := h.dl
  have hc := h.dc
  simp only [loopKeys] at hl
  simp only [cutKeys] at hc
  refine ⟨fun key hk => ?_, fun key hk => ?_, (List.nodup_append.1 hl).1, (List.nodup_append.1 (List.nodup_append.1 hc).2.1).1⟩
  · rw [h.lp key (by simp only [loopKeys, List.mem_append]; exact .inl hk), findLoop]
    exact or_left ((findLoop_keys E key a _).2 hk)
  · rw [h.ct key (by simp only [cutKeys, List.mem_append]; exact .inr (.inl hk)), findCut]
    have hs := cutKeys_some E hk
    cases hb : Nat.beq (keyOf b) key with
    | true =>
      exfalso
      have := Nat.eq_of_beq_eq_true hb
      subst this
      cases hx : E.cut (keyOf b) with
      | none => rw [hx] at hs; cases hs
      | some x =>
        rw [hx] at hc
        exact (List.nodup_append.1 hc).2.2 (keyOf b) (by simp) (keyOf b) (List.mem_append.2 (.inl hk)) rfl
    | false =>
      simp only [cond_false]
      exact or_left ((findCut_keys E hs a _).2 hk)
theorem Sub.seq2 {a b : Code} {K : Ex → St → Option R} (h : Sub E c0 K0 (.seq a b) K) : Sub E c0 K0 b K := by
  have hl := h.dl
  have hc := h.dc
  simp only [loopKeys] at hl
  simp only [cutKeys] at hc
  refine ⟨fun key hk => ?_, fun key hk => ?_, (List.nodup_append.1 hl).2.1, (List.nodup_append.1 (List.nodup_append.1 hc).2.1).2.1⟩
  · rw [h.lp key (by simp only [loopKeys, List.mem_append]; exact .inr hk), findLoop]
    refine or_right fun hx => ?_
    exact (List.nodup_append.1 hl).2.2 key ((findLoop_keys E key a _).1 hx) key hk rfl
  · rw [h.ct key (by simp only [cutKeys, List.mem_append]; exact .inr (.inr hk)), findCut]
    have hs := cutKeys_some E hk
    cases hb : Nat.beq (keyOf b) key with
    | true =>
      exfalso
      have := Nat.eq_of_beq_eq_true hb
      subst this
      cases hx : E.cut (keyOf b) with
      | none => rw [hx] at hs; cases hs
      | some x =>
        rw [hx] at hc
        exact (List.nodup_append.1 hc).2.2 (keyOf b) (by simp) (keyOf b) (List.mem_append.2 (.inr hk)) rfl
    | false =>
      simp only [cond_false]
      refine or_right fun hx => ?_
      exact (List.nodup_append.1 (List.nodup_append.1 hc).2.1).2.2 key ((findCut_keys E hs a _).1 hx) key hk rfl
theorem Sub.cond1 {cd : Operand} {a b : Code} {K : Ex → St → Option R} (h : Sub E c0 K0 (.cond cd a b) K) : Sub E c0 K0 a K := by
  have hl := h.dl
  have hc := h.dc
  simp only [loopKeys] at hl
  simp only [cutKeys] at hc
  refine ⟨fun key hk => ?_, fun key hk => ?_, (List.nodup_append.1 hl).1, (List.nodup_append.1 hc).1⟩
  · rw [h.lp key (by simp only [loopKeys, List.mem_append]; exact .inl hk), findLoop]
    exact or_left ((findLoop_keys E key a _).2 hk)
  · rw [h.ct key (by simp only [cutKeys, List.mem_append]; exact .inl hk), findCut]
    exact or_left ((findCut_keys E (cutKeys_some E hk) a _).2 hk)
theorem Sub.cond2 {cd : Operand} {a b : Code} {K : Ex → St → Option R} (h : Sub E c0 K0 (.cond cd a b) K) : Sub E c0 K0 b K := by
  have hl := h.dl
  have hc := h.dc
  simp only [loopKeys] at hl
  simp only [cutKeys] at hc
  refine ⟨fun key hk => ?_, fun key hk => ?_, (List.nodup_append.1 hl).2.1, (List.nodup_append.1 hc).2.1⟩
  · rw [h.lp key (by simp only [loopKeys, List.mem_append]; exact .inr hk), findLoop]
    refine or_right fun hx => ?_
    exact (List.nodup_append.1 hl).2.2 key ((findLoop_keys E key a _).1 hx) key hk rfl
  · rw [h.ct key (by simp only [cutKeys, List.mem_append]; exact .inr hk), findCut]
    refine or_right fun hx => ?_
    exact (List.nodup_append.1 hc).2.2 key ((findCut_keys E (cutKeys_some E hk) a _).1 hx) key hk rfl
theorem Sub.block {id : Nat} {c : Code} {K : Ex → St → Option R} (h : Sub E c0 K0 (.block id c) K) : Sub E c0 K0 c (blockK id K) :=
  ⟨fun key hk => h.lp key hk, fun key hk => h.ct key hk, h.dl, h.dc⟩
theorem Sub.loop {c : Code} {K : Ex → St → Option R} (h : Sub E c0 K0 (.loop c) K) : Sub E c0 K0 c (loopK E c K) := by
  have hl := h.dl
  simp only [loopKeys, List.nodup_cons] at hl
  refine ⟨fun key hk => ?_, fun key hk => h.ct key hk, hl.2, h.dc⟩
  rw [h.lp key (by simp only [loopKeys, List.mem_cons]; exact .inr hk), findLoop]
  cases hb : Nat.beq (keyOf c) key with
  | true => have := Nat.eq_of_beq_eq_true hb; subst this; exact (hl.1 hk).elim
  | false => rfl

/-- The loops and the cuts of a text, by name. -/
noncomputable def lpOf (E : Env) (c0 : Code) (K0 : Ex → St → Option R) (key : Nat) (l : List KV) : Option R :=
  match findLoop E key c0 K0 with
  | some (b, K) => fix (roundOf (evalCode E) (E.keep key) b K) l
  | none => none
noncomputable def ctOf (E : Env) (c0 : Code) (K0 : Ex → St → Option R) (key : Nat) (l : List KV) : Option R :=
  match findCut E key c0 K0, E.cut key with
  | some (b, K), some keep => cutHere key l fun l => evalCode E b (mk keep l) K
  | _, _ => none

theorem Sub.lpSelf {c : Code} {K : Ex → St → Option R} (h : Sub E c0 K0 (.loop c) K) (l : List KV) : lpOf E c0 K0 (keyOf c) l = fix (roundOf (evalCode E) (E.keep (keyOf c)) c K) l := by
  unfold lpOf
  rw [h.lp (keyOf c) (by simp [loopKeys]), findLoop, Nat.beq_refl]
  rfl
theorem Sub.ctSelf {a b : Code} {K : Ex → St → Option R} (h : Sub E c0 K0 (.seq a b) K) {keep : List Nat} (hk : E.cut (keyOf b) = some keep) (l : List KV) : ctOf E c0 K0 (keyOf b) l = evalCode E b (AI.mk keep l) K := by
  unfold ctOf
  rw [h.ct (keyOf b) (by simp [cutKeys, hk]), findCut, Nat.beq_refl, hk]
  rfl

theorem evalJ_eq (hr : ∀ k, E.roll k = none) : ∀ (c : Code) (K : Ex → St → Option R), Sub E c0 K0 c K → ∀ st, evalJ E (ctOf E c0 K0) (lpOf E c0 K0) c st K = evalCode E c st K := by
  intro c
  induction c with
  | seq a b iha ihb =>
    intro K h st
    simp only [evalJ]
    have e : (fun (ex : Ex) (st' : St) => match ex with
      | .normal => match E.cut (keyOf b) with
        | some keep => ctOf E c0 K0 (keyOf b) (canon keep st')
        | none => evalJ E (ctOf E c0 K0) (lpOf E c0 K0) b st' K
      | .exit i => K (.exit i) st'
      | .ret => K .ret st') = seqK E b K := by
      funext ex st'
      unfold seqK
      cases ex with
      | normal =>
        cases hk : E.cut (keyOf b) with
        | some keep => simp only []; rw [h.ctSelf hk]; rfl
        | none => simp only []; exact ihb K h.seq2 st'
      | exit i => rfl
      | ret => rfl
    rw [e, iha _ h.seq1 st]
    rfl
  | cond cd a b iha ihb =>
    intro K h st
    simp only [evalJ, evalCode]
    have ha := iha K h.cond1
    have hb := ihb K h.cond2
    simp only [ha, hb]
    rfl
  | block id c ih =>
    intro K h st
    exact ih _ h.block st
  | loop c ih =>
    intro K h st
    simp only [evalJ, evalCode, hr]
    rw [h.lpSelf]
  | region id ops draw => intro K h st; rfl
  | skip => intro K h st; rfl
  | label l => intro K h st; rfl
  | exit i => intro K h st; rfl
  | ret => intro K h st; rfl
  | rangeFunc f ps x y _ _ => intro K h st; rfl
  | scope c _ => intro K h st; rfl
  | goto l => intro K h st; rfl
  | refuse why => intro K h st; rfl

theorem seqKJ_eq (hr : ∀ k, E.roll k = none) {a b : Code} {K : Ex → St → Option R} (h : Sub E c0 K0 (.seq a b) K) : seqKJ E (ctOf E c0 K0) (lpOf E c0 K0) b K = seqK E b K := by
  funext ex st'
  unfold seqKJ seqK
  cases ex with
  | normal =>
    cases hk : E.cut (keyOf b) with
    | some keep => simp only []; rw [h.ctSelf hk]; rfl
    | none => simp only []; exact evalJ_eq hr b K h.seq2 st'
  | exit i => rfl
  | ret => rfl
theorem loopKJ_eq {c : Code} {K : Ex → St → Option R} (h : Sub E c0 K0 (.loop c) K) : loopKJ E (lpOf E c0 K0) c K = loopK E c K := by
  funext ex st'
  unfold loopKJ loopK
  cases ex with
  | normal => exact h.lpSelf _
  | exit i => rfl
  | ret => rfl

theorem findLoopJ_eq (hr : ∀ k, E.roll k = none) (key : Nat) : ∀ (c : Code) (K : Ex → St → Option R), Sub E c0 K0 c K → findLoopJ E (ctOf E c0 K0) (lpOf E c0 K0) key c K = findLoop E key c K := by
  intro c
  induction c with
  | seq a b iha ihb =>
    intro K h
    rw [findLoopJ, findLoop, seqKJ_eq hr h, iha _ h.seq1, ihb _ h.seq2]
  | cond cd a b iha ihb =>
    intro K h
    rw [findLoopJ, findLoop, iha _ h.cond1, ihb _ h.cond2]
  | block id c ih => intro K h; rw [findLoopJ, findLoop, ih _ h.block]
  | loop c ih => intro K h; rw [findLoopJ, findLoop, loopKJ_eq h, ih _ h.loop]
  | _ => intro K h; rfl
theorem findCutJ_eq (hr : ∀ k, E.roll k = none) (key : Nat) : ∀ (c : Code) (K : Ex → St → Option R), Sub E c0 K0 c K → findCutJ E (ctOf E c0 K0) (lpOf E c0 K0) key c K = findCut E key c K := by
  intro c
  induction c with
  | seq a b iha ihb =>
    intro K h
    rw [findCutJ, findCut, seqKJ_eq hr h, iha _ h.seq1, ihb _ h.seq2]
  | cond cd a b iha ihb =>
    intro K h
    rw [findCutJ, findCut, iha _ h.cond1, ihb _ h.cond2]
  | block id c ih => intro K h; rw [findCutJ, findCut, ih _ h.block]
  | loop c ih => intro K h; rw [findCutJ, findCut, loopKJ_eq h, ih _ h.loop]
  | _ => intro K h; rfl

/-- Wherever a loop is found, its text lies so. -/
theorem Sub.atLoop : ∀ (c : Code) (K : Ex → St → Option R), Sub E c0 K0 c K → ∀ {key : Nat} {b : Code} {K' : Ex → St → Option R}, findLoop E key c K = some (b, K') → key = keyOf b ∧ Sub E c0 K0 (.loop b) K' := by
  intro c
  induction c with
  | seq a b iha ihb =>
    intro K h key b' K' hf
    rw [findLoop] at hf
    rcases Option.or_eq_some_iff.1 hf with hf | ⟨_, hf⟩
    · exact iha _ h.seq1 hf
    · exact ihb _ h.seq2 hf
  | cond cd a b iha ihb =>
    intro K h key b' K' hf
    rw [findLoop] at hf
    rcases Option.or_eq_some_iff.1 hf with hf | ⟨_, hf⟩
    · exact iha _ h.cond1 hf
    · exact ihb _ h.cond2 hf
  | block id c ih => intro K h key b' K' hf; exact ih _ h.block hf
  | loop c ih =>
    intro K h key b' K' hf
    rw [findLoop] at hf
    cases hb : Nat.beq (keyOf c) key with
    | true =>
      rw [hb] at hf
      cases hf
      exact ⟨(Nat.eq_of_beq_eq_true hb).symm, h⟩
    | false => rw [hb] at hf; exact ih _ h.loop hf
  | _ => intro K h key b' K' hf; simp [findLoop] at hf
theorem Sub.atCut : ∀ (c : Code) (K : Ex → St → Option R), Sub E c0 K0 c K → ∀ {key : Nat} {b : Code} {K' : Ex → St → Option R}, findCut E key c K = some (b, K') → Sub E c0 K0 b K' := by
  intro c
  induction c with
  | seq a b iha ihb =>
    intro K h key b' K' hf
    rw [findCut] at hf
    cases hb : Nat.beq (keyOf b) key with
    | true => rw [hb] at hf; cases hf; exact h.seq2
    | false =>
      rw [hb] at hf
      rcases Option.or_eq_some_iff.1 hf with hf | ⟨_, hf⟩
      · exact iha _ h.seq1 hf
      · exact ihb _ h.seq2 hf
  | cond cd a b iha ihb =>
    intro K h key b' K' hf
    rw [findCut] at hf
    rcases Option.or_eq_some_iff.1 hf with hf | ⟨_, hf⟩
    · exact iha _ h.cond1 hf
    · exact ihb _ h.cond2 hf
  | block id c ih => intro K h key b' K' hf; exact ih _ h.block hf
  | loop c ih => intro K h key b' K' hf; exact ih _ h.loop hf
  | _ => intro K h key b' K' hf; simp [findCut] at hf
end

/-- What is asked of a text's names, to be computed. -/
def namesOk (E : Env) (c : Code) : Bool := nodup (loopKeys c) && nodup (cutKeys E c)

theorem sub_self {E : Env} {c : Code} {K : Ex → St → Option (List D)} (h : namesOk E c = true) : Sub E c K c K := by
  unfold namesOk at h
  rw [Bool.and_eq_true, nodup_iff, nodup_iff] at h
  exact ⟨fun _ _ => rfl, fun _ _ => rfl, h.1, h.2⟩

section
variable (E : Env) (fn : Func) (c : Code)
noncomputable def startJ (J L : Nat → List KV → Option (List D)) (ds : List D) : Option (List D) :=
  evalJ E J L c ⟨argFr ds, fun _ => none, 0⟩ (endK E fn)
noncomputable def roundJ (J L : Nat → List KV → Option (List D)) (key : Nat) (l : List KV) : Option (List D) :=
  match findLoopJ E J L key c (endK E fn) with
  | some (b, K) => evalJ E J L b (mk (E.keep key) l) fun ex st' => match ex with
    | .normal => L key (canon (E.keep key) st')
    | .exit i => K (.exit i) st'
    | .ret => K .ret st'
  | none => none
noncomputable def cutJ (J L : Nat → List KV → Option (List D)) (key : Nat) (l : List KV) : Option (List D) :=
  match findCutJ E J L key c (endK E fn), E.cut key with
  | some (b, K), some keep => evalJ E J L b (mk keep l) K
  | _, _ => none
end

variable {E : Env} {fn : Func} {c : Code}
theorem cutAt_ct : cutAt E fn c = ctOf E c (endK E fn) := by
  funext key l
  unfold cutAt ctOf
  cases findCut E key c (endK E fn) <;> cases E.cut key <;> rfl
theorem loopAt_lp : loopAt E fn c = lpOf E c (endK E fn) := by
  funext key l
  unfold loopAt lpOf
  cases findLoop E key c (endK E fn) <;> rfl
/- Behind these names the kernel never looks. -/
theorem ctO_ex (E : Env) (fn : Func) (c : Code) : ∃ f : Nat → List KV → Option (List D), f = cutAt E fn c := ⟨_, rfl⟩
noncomputable def ctO (E : Env) (fn : Func) (c : Code) : Nat → List KV → Option (List D) := Classical.choose (ctO_ex E fn c)
theorem ctO_eq : ctO E fn c = cutAt E fn c := Classical.choose_spec (ctO_ex E fn c)
theorem lpO_ex (E : Env) (fn : Func) (c : Code) : ∃ f : Nat → List KV → Option (List D), f = loopAt E fn c := ⟨_, rfl⟩
noncomputable def lpO (E : Env) (fn : Func) (c : Code) : Nat → List KV → Option (List D) := Classical.choose (lpO_ex E fn c)
theorem lpO_eq : lpO E fn c = loopAt E fn c := Classical.choose_spec (lpO_ex E fn c)

theorem evalFn_J (hr : E.roll = fun _ => none) (h : namesOk E c = true) (ds : List D) : evalFn E fn c ds = startJ E fn c (ctO E fn c) (lpO E fn c) ds := by
  rw [ctO_eq, lpO_eq, cutAt_ct, loopAt_lp]
  exact (evalJ_eq (c0 := c) (K0 := endK E fn) (fun k => by rw [hr]) c (endK E fn) (sub_self h) _).symm
theorem loopAt_J (hr : E.roll = fun _ => none) (h : namesOk E c = true) (key : Nat) (l : List KV) : lpO E fn c key l = roundJ E fn c (ctO E fn c) (lpO E fn c) key l := by
  rw [ctO_eq, lpO_eq, loopAt_eq, cutAt_ct, loopAt_lp]
  unfold roundAt roundJ
  have hs := sub_self (K := endK E fn) h
  have e := findLoopJ_eq (c0 := c) (K0 := endK E fn) (fun k => by rw [hr]) key c (endK E fn) hs
  rw [e]
  cases hf : findLoop E key c (endK E fn) with
  | none => rfl
  | some p =>
    obtain ⟨b, K⟩ := p
    simp only []
    obtain ⟨rfl, hb⟩ := Sub.atLoop c (endK E fn) hs hf
    have e2 : (fun (ex : Ex) (st' : St) => match ex with
      | .normal => lpOf E c (endK E fn) (keyOf b) (canon (E.keep (keyOf b)) st')
      | .exit i => K (.exit i) st'
      | .ret => K .ret st') = loopK E b K := loopKJ_eq hb
    rw [e2]
    exact (evalJ_eq (c0 := c) (K0 := endK E fn) (fun k => by rw [hr]) b _ hb.loop _).symm
theorem cutAt_J (hr : E.roll = fun _ => none) (h : namesOk E c = true) (key : Nat) (l : List KV) : ctO E fn c key l = cutJ E fn c (ctO E fn c) (lpO E fn c) key l := by
  rw [ctO_eq, lpO_eq, cutAt_eq, cutAt_ct, loopAt_lp]
  unfold cutOpen cutJ
  have hs := sub_self (K := endK E fn) h
  have e := findCutJ_eq (c0 := c) (K0 := endK E fn) (fun k => by rw [hr]) key c (endK E fn) hs
  rw [e]
  cases hf : findCut E key c (endK E fn) with
  | none => rfl
  | some p =>
    obtain ⟨b, K⟩ := p
    cases hc : E.cut key with
    | none => rfl
    | some keep => exact (evalJ_eq (c0 := c) (K0 := endK E fn) (fun k => by rw [hr]) b _ (Sub.atCut c _ hs hf) _).symm

end Go.Proofs.Ytnhebddoclhnnaa.AI

/- Contracts by parameters. -/
namespace Go.Proofs.Ytnhebddoclhnnaa.AI
open Go Go.RowKit

/-- How an argument is read, and what it is then taken for. -/
structure Par (α : Type) where
  put : α → D
  get : D → Option α
  le : ∀ {d x}, get d = some x → DLe d (put x)

def pI (k : IntKind) : Par (List Int) := ⟨fun a => .s (.ints k a), dI k, dI_le⟩
def pN (k : IntKind) : Par Int := ⟨fun n => .s (.sc (.int k n)), dN k, dN_le⟩
def pB : Par Bool := ⟨fun b => .s (.sc (.bool b)), dB, dB_le⟩
def dF (k : FloatKind) : D → Option Nat
  | .s (.sc (.float k' b)) => if _h : k = k' then some b else none
  | _ => none
theorem dF_le {k : FloatKind} {d : D} {n : Nat} (h : dF k d = some n) : DLe d (.s (.sc (.float k n))) := by
  unfold dF at h
  split at h
  · split at h
    · rename_i hk; cases h; subst hk; exact DLe.refl _
    · cases h
  · cases h
def pF (k : FloatKind) : Par Nat := ⟨fun b => .s (.sc (.float k b)), dF k, dF_le⟩
/-- Anything at all. -/
def pD : Par D := ⟨fun d => d, some, fun h => by cases h; exact DLe.refl _⟩

/-- The cells of a struct. -/
structure SPar (α : Type) where
  n : Nat
  put : α → List S
  get : List S → Option α
  le : ∀ {d x}, get d = some x → d.length = n ∧ (put x).length = n ∧ ∀ (i : Nat) (s s' : S), d[i]? = some s → (put x)[i]? = some s' → ∀ X w v, RepS X w s v → RepS X w s' v
def sOf {α : Type} (p : Par α) (put : α → S) (h : ∀ x, p.put x = .s (put x)) : SPar α where
  n := 1
  put x := [put x]
  get
    | [s] => p.get (.s s)
    | _ => none
  le := by
    intro d x hd
    match d, hd with
    | [s], hd =>
      refine ⟨rfl, rfl, fun i s1 s2 h1 h2 => ?_⟩
      match i with
      | 0 =>
        simp at h1 h2
        subst h1; subst h2
        intro X w v hr
        have := p.le hd X w v hr
        rw [h] at this
        exact this
      | i + 1 => simp at h1
def sI (k : IntKind) : SPar (List Int) := sOf (pI k) (fun a => .ints k a) fun _ => rfl
def sN (k : IntKind) : SPar Int := sOf (pN k) (fun n => .sc (.int k n)) fun _ => rfl
def sB : SPar Bool := sOf pB (fun b => .sc (.bool b)) fun _ => rfl
def sF (k : FloatKind) : SPar Nat := sOf (pF k) (fun b => .sc (.float k b)) fun _ => rfl
def SPar.pair {α β : Type} (p : SPar α) (q : SPar β) : SPar (α × β) where
  n := p.n + q.n
  put x := p.put x.1 ++ q.put x.2
  get d := match p.get (d.take p.n), q.get (d.drop p.n) with
    | some a, some b => some (a, b)
    | _, _ => none
  le := by
    intro d x h
    split at h
    · rename_i a b ha hb
      cases h
      obtain ⟨a1, a2, a3⟩ := p.le ha
      obtain ⟨b1, b2, b3⟩ := q.le hb
      simp only [List.length_take, List.length_drop] at a1 b1
      have a2' : (p.put (a, b).fst).length = p.n := a2
      refine ⟨by omega, by simp [a2, b2], fun i s s' h1 h2 => ?_⟩
      by_cases hi : i < p.n
      · rw [List.getElem?_append_left (by rw [a2']; exact hi)] at h2
        exact a3 i s s' (by rw [List.getElem?_take_of_lt hi]; exact h1) h2
      · rw [List.getElem?_append_right (by rw [a2']; omega), a2'] at h2
        exact b3 (i - p.n) s s' (by rw [List.getElem?_drop, show p.n + (i - p.n) = i from by omega]; exact h1) h2
    · cases h
def pG {α : Type} (p : SPar α) : Par α where
  put x := .agg (p.put x)
  get
    | .agg cs => p.get cs
    | _ => none
  le := by
    intro d x h
    match d, h with
    | .agg cs, h =>
      obtain ⟨h1, h2, h3⟩ := p.le h
      rintro Y w v ⟨arr, rfl, hl, hr⟩
      refine ⟨arr, rfl, by omega, fun i s u hs hu => ?_⟩
      obtain ⟨s0, hs0⟩ := getElem?_of_lt (l := cs) (i := i) (by have := getElem?_lt hs; omega)
      exact h3 i s0 s hs0 hs Y w u (hr i s0 u hs0 hu)

def orc0 (r : Prop × List D) : Orc
  | [] => some r
  | _ => none
def orc1 {α : Type} (p : Par α) (f : α → Prop × List D) : Orc
  | [a] => match p.get a with
    | some x => some (f x)
    | none => none
  | _ => none
def orc2 {α β : Type} (p : Par α) (q : Par β) (f : α → β → Prop × List D) : Orc
  | [a, b] => match p.get a, q.get b with
    | some x, some y => some (f x y)
    | _, _ => none
  | _ => none
def orc3 {α β γ : Type} (p : Par α) (q : Par β) (r : Par γ) (f : α → β → γ → Prop × List D) : Orc
  | [a, b, c] => match p.get a, q.get b, r.get c with
    | some x, some y, some z => some (f x y z)
    | _, _, _ => none
  | _ => none
def orc4 {α β γ δ : Type} (p : Par α) (q : Par β) (r : Par γ) (s : Par δ) (f : α → β → γ → δ → Prop × List D) : Orc
  | [a, b, c, d] => match p.get a, q.get b, r.get c, s.get d with
    | some x, some y, some z, some u => some (f x y z u)
    | _, _, _, _ => none
  | _ => none

/-- What stands about a function, apart from its specification. -/
structure FnOk (P : Program) (E : Env) (f : FuncId) (fn : Func) (c : Code) : Prop where
  ty : TyOk P E.T
  calls : CallsOk P E
  mix : P.follows .mixedOrders = true
  fnc : P.funcs[f]? = some fn
  body : fn.body = some c
  nt : E.nt = fn.ntmps
  has : HasBody P f
theorem fnOk {P : Program} {E : Env} {f : FuncId} {fn : Func} {c : Code} (ty : TyOk P E.T) (mix : P.follows .mixedOrders = true) (calls : CallsOk P E) (hf : P.funcs[f]? = some fn) (hb : fn.body = some c) (nt : E.nt = fn.ntmps) (hn : (fn.name == "runtime.NumGoroutine") = false) : FnOk P E f fn c :=
  ⟨ty, calls, mix, hf, hb, nt, hasBody_of hf hb hn⟩

variable {P : Program} {E : Env} {f : FuncId} {fn : Func} {c : Code}
theorem FnOk.ok0 (h : FnOk P E f fn c) {r : Prop × List D} (hs : r.1 → evalFn E fn c [] = some r.2) : OrcOk P E.glob f (orc0 r) := by
  intro ds g rs hd hg
  unfold orc0 at hd
  split at hd
  · cases hd
    exact ⟨fn_contract h.ty h.calls h.mix h.fnc h.body h.nt (Nat.zero_le _) (hs hg), h.has⟩
  · cases hd
theorem FnOk.ok1 {α : Type} (h : FnOk P E f fn c) {p : Par α} {g : α → Prop × List D} (hn : Nat.ble 1 fn.ntmps = true) (hs : ∀ x, (g x).1 → evalFn E fn c [p.put x] = some (g x).2) : OrcOk P E.glob f (orc1 p g) := by
  intro ds q rs hd hg
  unfold orc1 at hd
  split at hd
  · split at hd
    · rename_i x hx
      have hd := Option.some.inj hd
      have e1 : q = (g x).1 := by rw [hd]
      have e2 : rs = (g x).2 := by rw [hd]
      subst e1; subst e2
      exact ⟨(fn_contract (ds := [p.put x]) h.ty h.calls h.mix h.fnc h.body h.nt (Nat.le_of_ble_eq_true hn) (hs x hg)).of1 (p.le hx), h.has⟩
    · cases hd
  · cases hd
theorem FnOk.ok2 {α β : Type} (h : FnOk P E f fn c) {p : Par α} {p' : Par β} {g : α → β → Prop × List D} (hn : Nat.ble 2 fn.ntmps = true) (hs : ∀ x y, (g x y).1 → evalFn E fn c [p.put x, p'.put y] = some (g x y).2) : OrcOk P E.glob f (orc2 p p' g) := by
  intro ds q rs hd hg
  unfold orc2 at hd
  split at hd
  · split at hd
    · rename_i x y hx hy
      have hd := Option.some.inj hd
      have e1 : q = (g x y).1 := by rw [hd]
      have e2 : rs = (g x y).2 := by rw [hd]
      subst e1; subst e2
      exact ⟨(fn_contract (ds := [p.put x, p'.put y]) h.ty h.calls h.mix h.fnc h.body h.nt (Nat.le_of_ble_eq_true hn) (hs x y hg)).of2 (p.le hx) (p'.le hy), h.has⟩
    · cases hd
  · cases hd
theorem FnOk.ok3 {α β γ : Type} (h : FnOk P E f fn c) {p : Par α} {p' : Par β} {p'' : Par γ} {g : α → β → γ → Prop × List D} (hn : Nat.ble 3 fn.ntmps = true) (hs : ∀ x y z, (g x y z).1 → evalFn E fn c [p.put x, p'.put y, p''.put z] = some (g x y z).2) : OrcOk P E.glob f (orc3 p p' p'' g) := by
  intro ds q rs hd hg
  unfold orc3 at hd
  split at hd
  · split at hd
    · rename_i x y z hx hy hz
      have hd := Option.some.inj hd
      have e1 : q = (g x y z).1 := by rw [hd]
      have e2 : rs = (g x y z).2 := by rw [hd]
      subst e1; subst e2
      exact ⟨(fn_contract (ds := [p.put x, p'.put y, p''.put z]) h.ty h.calls h.mix h.fnc h.body h.nt (Nat.le_of_ble_eq_true hn) (hs x y z hg)).of3 (p.le hx) (p'.le hy) (p''.le hz), h.has⟩
    · cases hd
  · cases hd
theorem FnOk.ok4 {α β γ δ : Type} (h : FnOk P E f fn c) {p : Par α} {p' : Par β} {p'' : Par γ} {p3 : Par δ} {g : α → β → γ → δ → Prop × List D} (hn : Nat.ble 4 fn.ntmps = true) (hs : ∀ x y z u, (g x y z u).1 → evalFn E fn c [p.put x, p'.put y, p''.put z, p3.put u] = some (g x y z u).2) : OrcOk P E.glob f (orc4 p p' p'' p3 g) := by
  intro ds q rs hd hg
  unfold orc4 at hd
  split at hd
  · split at hd
    · rename_i x y z u hx hy hz hu
      have hd := Option.some.inj hd
      have e1 : q = (g x y z u).1 := by rw [hd]
      have e2 : rs = (g x y z u).2 := by rw [hd]
      subst e1; subst e2
      exact ⟨(fn_contract (ds := [p.put x, p'.put y, p''.put z, p3.put u]) h.ty h.calls h.mix h.fnc h.body h.nt (Nat.le_of_ble_eq_true hn) (hs x y z u hg)).of4 (p.le hx) (p'.le hy) (p''.le hz) (p3.le hu), h.has⟩
    · cases hd
  · cases hd


/- Functions without a Go text. -/
def extIs (f : FuncId) (g : List Value → Option (Prop × List Value)) (r : FuncId → List Value → Option (Prop × List Value)) : FuncId → List Value → Option (Prop × List Value) := fun f' vs => bif Nat.beq f' f then g vs else r f' vs
def extNone : FuncId → List Value → Option (Prop × List Value) := fun _ _ => none
theorem extNone_ok : ExtOk P extNone := fun _ _ _ _ h => by cases h
/-- One such function is what the model says. -/
structure ExtFn (P : Program) (f : FuncId) (e : Array Value → Sem Value) : Prop where
  run : ∀ (args : Array Value) (w : World), (callFunc f args).run P w = ((e args).run P w).andThen fun v w' => .ok (.value v) w'
theorem extIs_ok {f : FuncId} {g : List Value → Option (Prop × List Value)} {r : FuncId → List Value → Option (Prop × List Value)} {e : Array Value → Sem Value} (hf : ExtFn P f e)
    (hg : ∀ vs q rs, g vs = some (q, rs) → q → (∀ v ∈ rs, v.oneCell' = true) ∧ ∀ w, (e vs.toArray).run P w = .ok (resV rs) w) (hr : ExtOk P r) : ExtOk P (extIs f g r) := by
  intro f' vs q rs h hq
  unfold extIs at h
  cases hb : Nat.beq f' f with
  | true =>
    rw [hb] at h
    have := Nat.eq_of_beq_eq_true hb
    subst this
    obtain ⟨h1, h2⟩ := hg vs q rs h hq
    exact ⟨h1, fun w => by rw [hf.run, h2]; rfl⟩
  | false => rw [hb] at h; exact hr f' vs q rs h hq
def gBits : List Value → Option (Prop × List Value)
  | [.float .f64 b] => some (True, [.int .u64 b])
  | _ => none
theorem gBits_ok (vs : List Value) (q : Prop) (rs : List Value) (h : gBits vs = some (q, rs)) (_ : q) : (∀ v ∈ rs, v.oneCell' = true) ∧ ∀ w, (Extern.MathFloatBits.float64bits vs.toArray).run P w = .ok (resV rs) w := by
  unfold gBits at h
  split at h
  · cases h
    exact ⟨by simp [Value.oneCell'], fun w => rfl⟩
  · cases h
def gFrom : List Value → Option (Prop × List Value)
  | [.int .u64 n] => some (True, [.float .f64 n.toNat])
  | _ => none
theorem gFrom_ok (vs : List Value) (q : Prop) (rs : List Value) (h : gFrom vs = some (q, rs)) (_ : q) : (∀ v ∈ rs, v.oneCell' = true) ∧ ∀ w, (Extern.MathFloatBits.float64frombits vs.toArray).run P w = .ok (resV rs) w := by
  unfold gFrom at h
  split at h
  · cases h
    exact ⟨by simp [Value.oneCell'], fun w => rfl⟩
  · cases h

theorem extFn_of {f : FuncId} {fn : Func} {e : Array Value → Sem Value} (hf : P.funcs[f]? = some fn) (hname : (fn.name == "runtime.NumGoroutine") = false)
    (hb : fn.body.isNone = true) (hn : Extern.findNext fn = none) (he : Extern.find fn = some e) : ExtFn P f e := ⟨fun args w => run_callFunc_extern hf hname hb hn he args w⟩

end Go.Proofs.Ytnhebddoclhnnaa.AI

/- Numbers and their digits to the base 2^32, least first. No program is in sight. -/
namespace Go.Proofs.Ytnhebddoclhnnaa.M
open Go

def val : List Int → Nat
  | [] => 0
  | d :: r => d.toNat + 4294967296 * val r
def dg (n : Nat) : List Int := if h : n = 0 then [] else ((n % 4294967296 : Nat) : Int) :: dg (n / 4294967296)
termination_by n
decreasing_by omega
def Dig (a : List Int) : Prop := ∀ d ∈ a, 0 ≤ d ∧ d < 4294967296
/-- Digits with none on top that is nought. -/
def Nrm (a : List Int) : Prop := a = dg (val a)

theorem dg_zero : dg 0 = [] := by rw [dg]; rfl
theorem dg_pos {n : Nat} (h : n ≠ 0) : dg n = ((n % 4294967296 : Nat) : Int) :: dg (n / 4294967296) := by rw [dg, dif_neg h]

theorem val_dg (n : Nat) : val (dg n) = n := by
  induction n using Nat.strongRecOn with
  | _ n ih =>
    by_cases h : n = 0
    · subst h; rw [dg_zero]; rfl
    · rw [dg_pos h, val, ih _ (by omega)]
      have := Nat.div_add_mod n 4294967296
      omega

theorem dig_nil : Dig [] := fun _ h => by cases h
theorem dig_cons {d : Int} {r : List Int} : Dig (d :: r) ↔ (0 ≤ d ∧ d < 4294967296) ∧ Dig r := by
  unfold Dig; simp
theorem dig_append {a b : List Int} : Dig (a ++ b) ↔ Dig a ∧ Dig b := by
  unfold Dig; simp only [List.mem_append]
  exact ⟨fun h => ⟨fun d hd => h d (.inl hd), fun d hd => h d (.inr hd)⟩, fun h d hd => hd.elim (h.1 d) (h.2 d)⟩
theorem Dig.take {a : List Int} (h : Dig a) (n : Nat) : Dig (a.take n) := fun d hd => h d (List.mem_of_mem_take hd)
theorem Dig.drop {a : List Int} (h : Dig a) (n : Nat) : Dig (a.drop n) := fun d hd => h d (List.mem_of_mem_drop hd)
theorem dig_replicate (n : Nat) : Dig (List.replicate n 0) := fun d hd => by rw [(List.mem_replicate.1 hd).2]; omega

theorem dig_dg (n : Nat) : Dig (dg n) := by
  induction n using Nat.strongRecOn with
  | _ n ih =>
    by_cases h : n = 0
    · subst h; rw [dg_zero]; exact dig_nil
    · rw [dg_pos h]; exact dig_cons.2 ⟨by omega, ih _ (by omega)⟩

theorem nrm_dg (n : Nat) : Nrm (dg n) := by unfold Nrm; rw [val_dg]
theorem Nrm.dig {a : List Int} (h : Nrm a) : Dig a := by rw [h]; exact dig_dg _

theorem val_append : ∀ (a b : List Int), val (a ++ b) = val a + 4294967296 ^ a.length * val b
  | [], b => by simp [val]
  | d :: a, b => by
    simp only [List.cons_append, val, val_append a b, List.length_cons, Nat.pow_succ]
    rw [Nat.mul_add, ← Nat.mul_assoc, Nat.mul_comm 4294967296 (4294967296 ^ a.length)]
    omega

theorem val_lt : ∀ {a : List Int}, Dig a → val a < 4294967296 ^ a.length
  | [], _ => by simp [val]
  | d :: a, h => by
    obtain ⟨h1, h2⟩ := dig_cons.1 h
    have := val_lt h2
    simp only [val, List.length_cons, Nat.pow_succ]
    have : d.toNat < 4294967296 := by omega
    have : 4294967296 * val a + 4294967296 ≤ 4294967296 ^ a.length * 4294967296 := by
      rw [Nat.mul_comm (4294967296 ^ a.length)]
      have : 4294967296 * (val a + 1) ≤ 4294967296 * 4294967296 ^ a.length := Nat.mul_le_mul_left _ (by omega)
      omega
    omega

theorem val_replicate : ∀ n, val (List.replicate n 0) = 0
  | 0 => rfl
  | n + 1 => by simp [List.replicate_succ, val, val_replicate n]

/-- Digits are those of their number, but for noughts on top. -/
theorem dg_val : ∀ {a : List Int}, Dig a → ∃ k, a = dg (val a) ++ List.replicate k 0
  | [], _ => ⟨0, by simp [val, dg_zero]⟩
  | d :: a, h => by
    obtain ⟨h1, h2⟩ := dig_cons.1 h
    obtain ⟨k, hk⟩ := dg_val h2
    by_cases hz : d.toNat + 4294967296 * val a = 0
    · have hd : d = 0 := by omega
      have hv : val a = 0 := by omega
      rw [hv, dg_zero] at hk
      refine ⟨k + 1, ?_⟩
      simp only [val]
      rw [hz, dg_zero, hd, hk]
      simp [List.replicate_succ]
    · refine ⟨k, ?_⟩
      simp only [val]
      rw [dg_pos hz]
      have e1 : (d.toNat + 4294967296 * val a) % 4294967296 = d.toNat := by omega
      have e2 : (d.toNat + 4294967296 * val a) / 4294967296 = val a := by omega
      rw [e1, e2, List.cons_append, ← hk]
      congr 1
      omega

theorem nrm_nil : Nrm [] := by unfold Nrm; simp [val, dg_zero]

/-- What has no nought on top is the digits of its number. -/
theorem nrm_of {a : List Int} (h : Dig a) (ht : ∀ d, a.getLast? = some d → d ≠ 0) : Nrm a := by
  obtain ⟨k, hk⟩ := dg_val h
  cases k with
  | zero => unfold Nrm; simpa using hk
  | succ k =>
    exfalso
    refine ht 0 ?_ rfl
    rw [hk, List.replicate_succ', ← List.append_assoc]
    simp

theorem Nrm.top {a : List Int} (h : Nrm a) {d : Int} (hd : a.getLast? = some d) : d ≠ 0 := by
  have key : ∀ n, ∀ d, (dg n).getLast? = some d → d ≠ 0 := by
    intro n
    induction n using Nat.strongRecOn with
    | _ n ih =>
      intro d hd
      by_cases hn : n = 0
      · subst hn; rw [dg_zero] at hd; cases hd
      · rw [dg_pos hn] at hd
        by_cases hq : n / 4294967296 = 0
        · rw [hq, dg_zero] at hd
          simp at hd
          omega
        · refine ih (n / 4294967296) (by omega) d ?_
          rw [dg_pos hq] at hd ⊢
          rwa [List.getLast?_cons_cons] at hd
  rw [h] at hd
  exact key _ d hd

theorem nrm_tail {d : Int} {a : List Int} (h : Nrm (d :: a)) : Nrm a := by
  have hd := h.dig
  refine nrm_of (dig_cons.1 hd).2 fun e he => h.top ?_
  cases a with
  | nil => cases he
  | cons x r => rwa [List.getLast?_cons_cons]

theorem len_dg_le {n k : Nat} (h : n < 4294967296 ^ k) : (dg n).length ≤ k := by
  induction k generalizing n with
  | zero => have : n = 0 := by simpa using h
            subst this; rw [dg_zero]; exact Nat.le_refl _
  | succ k ih =>
    by_cases hn : n = 0
    · subst hn; rw [dg_zero]; simp
    · rw [dg_pos hn, List.length_cons]
      have := ih (n := n / 4294967296) (by rw [Nat.pow_succ] at h; exact Nat.div_lt_of_lt_mul (by rw [Nat.mul_comm]; exact h))
      omega

theorem lt_of_len {n : Nat} : n < 4294967296 ^ (dg n).length := by
  have := val_lt (dig_dg n)
  rwa [val_dg] at this

theorem len_dg_mono {n m : Nat} (h : n ≤ m) : (dg n).length ≤ (dg m).length := len_dg_le (Nat.lt_of_le_of_lt h lt_of_len)

theorem len_val {a : List Int} (h : Dig a) : (dg (val a)).length ≤ a.length := len_dg_le (val_lt h)

theorem ge_of_len {n k : Nat} (h : k < (dg n).length) : 4294967296 ^ k ≤ n := by
  rcases Nat.lt_or_ge n (4294967296 ^ k) with h1 | h1
  · have := len_dg_le h1; omega
  · exact h1

theorem val_take_succ {a : List Int} {n : Nat} (h : n < a.length) : val (a.take (n + 1)) = val (a.take n) + 4294967296 ^ n * (a.getD n 0).toNat := by
  rw [List.take_succ_eq_append_getElem h, val_append, List.length_take, Nat.min_eq_left (by omega)]
  simp [val, List.getD_eq_getElem?_getD, h]

theorem val_take_drop (a : List Int) {n : Nat} (h : n ≤ a.length) : val a = val (a.take n) + 4294967296 ^ n * val (a.drop n) := by
  have e := val_append (a.take n) (a.drop n)
  rw [List.take_append_drop, List.length_take, Nat.min_eq_left h] at e
  exact e

theorem getD_mem {a : List Int} {n : Nat} (h : n < a.length) : a.getD n 0 ∈ a := by
  rw [List.getD_eq_getElem?_getD, List.getElem?_eq_getElem h]
  simp
theorem Dig.get {a : List Int} (h : Dig a) (n : Nat) : 0 ≤ a.getD n 0 ∧ a.getD n 0 < 4294967296 := by
  rcases Nat.lt_or_ge n a.length with hn | hn
  · exact h _ (getD_mem hn)
  · rw [List.getD_eq_getElem?_getD, List.getElem?_eq_none hn]; simp

theorem getLast_take {a : List Int} {n : Nat} (h : n < a.length) : (a.take (n + 1)).getLast? = some (a.getD n 0) := by
  rw [List.take_succ_eq_append_getElem h, List.getLast?_append]
  simp [List.getD_eq_getElem?_getD, h]
theorem copy_all {xs : List Int} {n : Nat} (h : n ≤ xs.length) : List.take n (List.drop 0 (List.take n xs)) ++ List.drop (min (List.drop 0 (List.take n xs)).length n) (List.replicate n 0) = xs.take n := by
  have e : (List.drop 0 (List.take n xs)).length = n := by simp; omega
  rw [e, Nat.min_self, List.drop_zero, List.take_take, Nat.min_self]
  simp

/- The machine's whole numbers. -/

theorem and_mask32 {w : Int} (h : 0 ≤ w) (h' : w < 18446744073709551616) : AI.bitsI .and .u64 w 4294967295 = w % 4294967296 := by
  obtain ⟨n, rfl⟩ := Int.eq_ofNat_of_zero_le h
  unfold AI.bitsI
  simp only
  have e : (BitVec.ofInt IntKind.u64.bits (n : Int) &&& BitVec.ofInt IntKind.u64.bits 4294967295).toNat = n % 4294967296 := by
    show (BitVec.ofInt 64 (n : Int) &&& BitVec.ofInt 64 4294967295).toNat = _
    rw [BitVec.toNat_and]
    have e1 : (BitVec.ofInt 64 (n : Int)).toNat = n := by simp; omega
    have e2 : (BitVec.ofInt 64 4294967295).toNat = 2 ^ 32 - 1 := by decide
    rw [e1, e2, Nat.and_two_pow_sub_one_eq_mod]
  rw [e, wrap_u64 (by omega) (by omega)]
  omega

/- Ways. -/
section
variable {R : Type} {x y : Option R}
theorem bD_pos {p : Prop} [Decidable p] (h : p) : AI.bcase (decide p) x y = x := by simp only [AI.bcase, decide_eq_true h, cond_true]
theorem bD_neg {p : Prop} [Decidable p] (h : ¬ p) : AI.bcase (decide p) x y = y := by simp only [AI.bcase, decide_eq_false h, cond_false]
theorem bE_pos {a b : Int} (h : a = b) : AI.bcase (a == b) x y = x := by subst h; simp [AI.bcase]
theorem bE_neg {a b : Int} (h : a ≠ b) : AI.bcase (a == b) x y = y := by rw [beq_eq_false_iff_ne.2 h]; rfl
theorem bN_pos {a b : Int} (h : a ≠ b) : AI.bcase (a != b) x y = x := by rw [bne_iff_ne.2 h]; rfl
theorem bN_neg {a b : Int} (h : a = b) : AI.bcase (a != b) x y = y := by subst h; simp [AI.bcase]
theorem bT : AI.bcase true x y = x := rfl
theorem bF : AI.bcase false x y = y := rfl
theorem bB_pos {b : Bool} (h : b = true) : AI.bcase b x y = x := by rw [h]; rfl
theorem bB_neg {b : Bool} (h : b = false) : AI.bcase b x y = y := by rw [h]; rfl
theorem gP {g : Prop} (h : g) : AI.gif g x = x := AI.gif_pos h
end

theorem wrap_i64n {n : Int} (h : -9223372036854775808 ≤ n ∧ n < 9223372036854775808) : IntKind.i64.wrap n = n := wrap_i64 h.1 h.2
theorem wrap_u64n {n : Int} (h : 0 ≤ n ∧ n < 18446744073709551616) : IntKind.u64.wrap n = n := wrap_u64 h.1 h.2
theorem wrap_u32n {n : Int} (h : 0 ≤ n ∧ n < 4294967296) : IntKind.u32.wrap n = n := by rw [wrap_u32]; omega

/-- How two numbers stand. -/
def cmpN (a b : Nat) : Int := if a < b then -1 else if b < a then 1 else 0
theorem getD_none {a : List Int} {n : Nat} (h : a.length ≤ n) : a.getD n 0 = 0 := by
  rw [List.getD_eq_getElem?_getD, List.getElem?_eq_none h]; rfl
theorem val_take_ge {a : List Int} {n : Nat} (h : a.length ≤ n) : val (a.take n) = val a := by rw [List.take_of_length_le h]
/-- One digit more of what is taken, whether there is one or not. -/
theorem val_take_one {a : List Int} (n : Nat) : val (a.take (n + 1)) = val (a.take n) + 4294967296 ^ n * (a.getD n 0).toNat := by
  rcases Nat.lt_or_ge n a.length with h | h
  · exact val_take_succ h
  · rw [val_take_ge (by omega), val_take_ge h, getD_none h]; simp
theorem val_take_lt {a : List Int} (h : Dig a) (n : Nat) : val (a.take n) < 4294967296 ^ n := by
  have := val_lt (h.take n)
  exact Nat.lt_of_lt_of_le this (Nat.pow_le_pow_right (by omega) (by rw [List.length_take]; omega))
theorem val_push {a : List Int} {d : Int} : val (a ++ [d]) = val a + 4294967296 ^ a.length * d.toNat := by
  rw [val_append]; simp [val]
theorem dig_push {a : List Int} {d : Int} (h : Dig a) (hd : 0 ≤ d ∧ d < 4294967296) : Dig (a ++ [d]) := by
  rw [dig_append, dig_cons]; exact ⟨h, hd, dig_nil⟩
theorem nrm_dg' {a : List Int} (h : Nrm a) : dg (val a) = a := h.symm
theorem nrm_len_lt {a b : List Int} (ha : Dig a) (hb : Nrm b) (h : a.length < b.length) : val a < val b := by
  have h1 := val_lt ha
  have h2 : 4294967296 ^ a.length ≤ val b := ge_of_len (by rw [← hb]; exact h)
  omega
theorem nrm_eq {a b : List Int} (ha : Nrm a) (hb : Nrm b) (h : val a = val b) : a = b := by rw [ha, hb, h]
theorem len_zero {a : List Int} (ha : Nrm a) : a.length = 0 ↔ val a = 0 := by
  constructor
  · intro h; have : a = [] := List.length_eq_zero_iff.1 h; subst this; rfl
  · intro h; rw [ha, h, dg_zero]; rfl
theorem dg_len_zero {n : Nat} : (dg n).length = 0 ↔ n = 0 := by rw [len_zero (nrm_dg n), val_dg]
theorem dig_set {a : List Int} (h : Dig a) {n : Nat} {d : Int} (hd : 0 ≤ d ∧ d < 4294967296) : Dig (a.set n d) := by
  intro x hx
  rcases List.mem_or_eq_of_mem_set hx with h1 | h1
  · exact h x h1
  · subst h1; exact hd
theorem val_drop_set {a : List Int} {n : Nat} (h : n < a.length) (d : Int) : val ((a.set n d).drop n) = d.toNat + 4294967296 * val (a.drop (n + 1)) := by
  have e : (a.set n d).drop n = d :: a.drop (n + 1) := by
    rw [List.drop_eq_getElem_cons (by simpa using h)]
    simp [List.drop_set]
  rw [e]; rfl
theorem val_drop_one {a : List Int} (n : Nat) : val (a.drop n) = (a.getD n 0).toNat + 4294967296 * val (a.drop (n + 1)) := by
  rcases Nat.lt_or_ge n a.length with h | h
  · rw [List.drop_eq_getElem_cons h]
    simp [val, List.getD_eq_getElem?_getD, h]
  · rw [List.drop_eq_nil_of_le h, List.drop_eq_nil_of_le (by omega), getD_none h]; rfl
theorem div_step {l B n d r w : Nat} (hw : 0 < w) : ((l * B + d) * n + r) / w = (((l * B + d) % w) * n + r) / w + n * ((l * B + d) / w) := by
  have h := Nat.div_add_mod (l * B + d) w
  have e : (l * B + d) * n + r = ((l * B + d) % w * n + r) + w * (n * ((l * B + d) / w)) := by
    generalize l * B + d = t at *
    generalize t / w = q at *
    generalize t % w = m at *
    subst h
    rw [Nat.add_mul]
    have : w * q * n = w * (n * q) := by rw [Nat.mul_assoc, Nat.mul_comm q n]
    omega
  rw [e, Nat.add_mul_div_left _ _ hw]
theorem mod_step {l B n d r w : Nat} : ((l * B + d) * n + r) % w = (((l * B + d) % w) * n + r) % w := by
  conv => rhs; rw [Nat.add_mod, Nat.mul_mod, Nat.mod_mod, ← Nat.mul_mod, ← Nat.add_mod]
theorem cmpN_add (u v k : Nat) : cmpN (u + k) (v + k) = cmpN u v := by
  unfold cmpN
  simp only [Nat.add_lt_add_iff_right]
theorem toNat_ediv' {a b : Int} (ha : 0 ≤ a) (hb : 0 ≤ b) : (a / b).toNat = a.toNat / b.toNat := by
  obtain ⟨x, rfl⟩ := Int.eq_ofNat_of_zero_le ha
  obtain ⟨y, rfl⟩ := Int.eq_ofNat_of_zero_le hb
  rw [← Int.natCast_ediv, Int.toNat_natCast, Int.toNat_natCast, Int.toNat_natCast]
theorem toNat_emod' {a b : Int} (ha : 0 ≤ a) (hb : 0 ≤ b) : (a % b).toNat = a.toNat % b.toNat := by
  obtain ⟨x, rfl⟩ := Int.eq_ofNat_of_zero_le ha
  obtain ⟨y, rfl⟩ := Int.eq_ofNat_of_zero_le hb
  rw [← Int.natCast_emod, Int.toNat_natCast, Int.toNat_natCast, Int.toNat_natCast]
theorem toNat_lt {d : Int} {k : Nat} (h : 0 ≤ d ∧ d < (k : Int)) : d.toNat < k := by omega

end Go.Proofs.Ytnhebddoclhnnaa.M

/- Bit lengths, shifts. No program is in sight. -/
namespace Go.Proofs.Ytnhebddoclhnnaa.M
open Go

/-- The least k with n < 2^k. -/
def bl (n : Nat) : Nat := if n = 0 then 0 else n.log2 + 1
theorem bl_zero : bl 0 = 0 := rfl
theorem lt_bl (n : Nat) : n < 2 ^ bl n := by
  unfold bl
  split
  · omega
  · exact Nat.lt_log2_self
theorem bl_ge {n : Nat} (h : n ≠ 0) : 2 ^ (bl n - 1) ≤ n := by
  unfold bl
  rw [if_neg h]
  exact Nat.log2_self_le h
theorem bl_le {n k : Nat} : bl n ≤ k ↔ n < 2 ^ k := by
  constructor
  · intro h; exact Nat.lt_of_lt_of_le (lt_bl n) (Nat.pow_le_pow_right (by omega) h)
  · intro h
    by_cases hn : n = 0
    · subst hn; exact Nat.zero_le _
    · rcases Nat.lt_or_ge k (bl n) with h1 | h1
      · exfalso
        have h2 := bl_ge hn
        have h3 : 2 ^ k ≤ 2 ^ (bl n - 1) := Nat.pow_le_pow_right (by omega) (by omega)
        omega
      · exact h1
theorem lt_bl_iff {n k : Nat} : k < bl n ↔ 2 ^ k ≤ n := by
  have := @bl_le n k
  omega
theorem bl_pos {n : Nat} (h : n ≠ 0) : 0 < bl n := by rw [lt_bl_iff]; simp; omega
theorem bl_eq {n k : Nat} (h : 2 ^ k ≤ n) (h' : n < 2 ^ (k + 1)) : bl n = k + 1 := by
  have := bl_le.2 h'
  have := lt_bl_iff.2 h
  omega
theorem bl_add {r k t : Nat} (hr : r < 2 ^ k) (ht : t ≠ 0) : bl (r + 2 ^ k * t) = k + bl t := by
  have hp := bl_pos ht
  have e : k + bl t = (k + (bl t - 1)) + 1 := by omega
  rw [e]
  apply bl_eq
  · rw [Nat.pow_add]
    have := Nat.mul_le_mul_left (2 ^ k) (bl_ge ht)
    omega
  · have h1 := lt_bl t
    have h2 : 2 ^ k * (t + 1) ≤ 2 ^ k * 2 ^ bl t := Nat.mul_le_mul_left _ h1
    rw [← Nat.pow_add] at h2
    rw [Nat.mul_add] at h2
    have e2 : k + (bl t - 1) + 1 = k + bl t := by omega
    rw [e2]
    omega
theorem bl_mul {k t : Nat} (ht : t ≠ 0) : bl (2 ^ k * t) = k + bl t := by
  have := bl_add (r := 0) (k := k) (t := t) (Nat.pow_pos (by omega)) ht
  rwa [Nat.zero_add] at this
theorem bl_half {n : Nat} (h : n ≠ 0) : bl n = bl (n / 2) + 1 := by
  by_cases h2 : n / 2 = 0
  · rw [h2]
    have : n = 1 := by omega
    subst this; rfl
  · have := bl_add (r := n % 2) (k := 1) (t := n / 2) (by simp; omega) h2
    have e : n % 2 + 2 ^ 1 * (n / 2) = n := by omega
    rw [e] at this
    omega
theorem bl_mono {a b : Nat} (h : a ≤ b) : bl a ≤ bl b := bl_le.2 (Nat.lt_of_le_of_lt h (lt_bl b))

theorem pow32 (k : Nat) : 4294967296 ^ k = 2 ^ (32 * k) := by rw [Nat.pow_mul]
theorem len_dg_bits {n k : Nat} (h : n < 2 ^ k) : (dg n).length ≤ k / 32 + 1 := by
  apply len_dg_le
  rw [pow32]
  exact Nat.lt_of_lt_of_le h (Nat.pow_le_pow_right (by omega) (by omega))
theorem len_dg_bl (n : Nat) : (dg n).length ≤ bl n / 32 + 1 := len_dg_bits (lt_bl n)

theorem shl_wrap {k : Int} (h : 0 ≤ k) (h' : k < 32) : IntKind.u32.wrap (1 * ((2 ^ (min k.toNat 32) : Nat) : Int)) = ((2 ^ k.toNat : Nat) : Int) := by
  have e : min k.toNat 32 = k.toNat := by omega
  rw [e, Int.one_mul, wrap_u32]
  have : 2 ^ k.toNat < 2 ^ 32 := Nat.pow_lt_pow_right (by omega) (by omega)
  generalize 2 ^ k.toNat = p at *
  omega
theorem tdiv32 {n : Int} (h : 0 ≤ n) : n.tdiv 32 = n / 32 := Int.tdiv_eq_ediv_of_nonneg h
theorem tmod32 {n : Int} (h : 0 ≤ n) : n.tmod 32 = n % 32 := Int.tmod_eq_emod_of_nonneg h
theorem pow_split (n : Nat) : 2 ^ n = 4294967296 ^ (n / 32) * 2 ^ (n % 32) := by
  rw [pow32, ← Nat.pow_add]; congr 1; omega
theorem div_split (v n : Nat) : v / 4294967296 ^ (n / 32) / 2 ^ (n % 32) = v / 2 ^ n := by
  rw [Nat.div_div_eq_div_mul, ← pow_split]
theorem val_drop_div {a : List Int} (h : Dig a) (n : Nat) : val (a.drop n) = val a / 4294967296 ^ n := by
  rcases Nat.le_or_ge n a.length with hn | hn
  · rw [val_take_drop a hn, Nat.add_mul_div_left _ _ (Nat.pow_pos (by omega)), Nat.div_eq_of_lt (val_take_lt h n), Nat.zero_add]
  · rw [List.drop_eq_nil_of_le hn, Nat.div_eq_of_lt]
    · rfl
    · exact Nat.lt_of_lt_of_le (val_lt h) (Nat.pow_le_pow_right (by omega) hn)
end Go.Proofs.Ytnhebddoclhnnaa.M

/- Numbers and their digits to the base 2^64, least first. No program is in sight. -/
namespace Go.Proofs.Ytnhebddoclhnnaa.M6
open Go

def val : List Int → Nat
  | [] => 0
  | d :: r => d.toNat + 18446744073709551616 * val r
def dg (n : Nat) : List Int := if h : n = 0 then [] else ((n % 18446744073709551616 : Nat) : Int) :: dg (n / 18446744073709551616)
termination_by n
decreasing_by omega
def Dig (a : List Int) : Prop := ∀ d ∈ a, 0 ≤ d ∧ d < 18446744073709551616
/-- Digits with none on top that is nought. -/
def Nrm (a : List Int) : Prop := a = dg (val a)

theorem dg_zero : dg 0 = [] := by rw [dg]; rfl
theorem dg_pos {n : Nat} (h : n ≠ 0) : dg n = ((n % 18446744073709551616 : Nat) : Int) :: dg (n / 18446744073709551616) := by rw [dg, dif_neg h]

theorem val_dg (n : Nat) : val (dg n) = n := by
  induction n using Nat.strongRecOn with
  | _ n ih =>
    by_cases h : n = 0
    · subst h; rw [dg_zero]; rfl
    · rw [dg_pos h, val, ih _ (by omega)]
      have := Nat.div_add_mod n 18446744073709551616
      omega

theorem dig_nil : Dig [] := fun _ h => by cases h
theorem dig_cons {d : Int} {r : List Int} : Dig (d :: r) ↔ (0 ≤ d ∧ d < 18446744073709551616) ∧ Dig r := by
  unfold Dig; simp
theorem dig_append {a b : List Int} : Dig (a ++ b) ↔ Dig a ∧ Dig b := by
  unfold Dig; simp only [List.mem_append]
  exact ⟨fun h => ⟨fun d hd => h d (.inl hd), fun d hd => h d (.inr hd)⟩, fun h d hd => hd.elim (h.1 d) (h.2 d)⟩
theorem Dig.take {a : List Int} (h : Dig a) (n : Nat) : Dig (a.take n) := fun d hd => h d (List.mem_of_mem_take hd)
theorem Dig.drop {a : List Int} (h : Dig a) (n : Nat) : Dig (a.drop n) := fun d hd => h d (List.mem_of_mem_drop hd)
theorem dig_replicate (n : Nat) : Dig (List.replicate n 0) := fun d hd => by rw [(List.mem_replicate.1 hd).2]; omega

theorem dig_dg (n : Nat) : Dig (dg n) := by
  induction n using Nat.strongRecOn with
  | _ n ih =>
    by_cases h : n = 0
    · subst h; rw [dg_zero]; exact dig_nil
    · rw [dg_pos h]; exact dig_cons.2 ⟨by omega, ih _ (by omega)⟩

theorem nrm_dg (n : Nat) : Nrm (dg n) := by unfold Nrm; rw [val_dg]
theorem Nrm.dig {a : List Int} (h : Nrm a) : Dig a := by rw [h]; exact dig_dg _

theorem val_append : ∀ (a b : List Int), val (a ++ b) = val a + 18446744073709551616 ^ a.length * val b
  | [], b => by simp [val]
  | d :: a, b => by
    simp only [List.cons_append, val, val_append a b, List.length_cons, Nat.pow_succ]
    rw [Nat.mul_add, ← Nat.mul_assoc, Nat.mul_comm 18446744073709551616 (18446744073709551616 ^ a.length)]
    omega

theorem val_lt : ∀ {a : List Int}, Dig a → val a < 18446744073709551616 ^ a.length
  | [], _ => by simp [val]
  | d :: a, h => by
    obtain ⟨h1, h2⟩ := dig_cons.1 h
    have := val_lt h2
    simp only [val, List.length_cons, Nat.pow_succ]
    have : d.toNat < 18446744073709551616 := by omega
    have : 18446744073709551616 * val a + 18446744073709551616 ≤ 18446744073709551616 ^ a.length * 18446744073709551616 := by
      rw [Nat.mul_comm (18446744073709551616 ^ a.length)]
      have : 18446744073709551616 * (val a + 1) ≤ 18446744073709551616 * 18446744073709551616 ^ a.length := Nat.mul_le_mul_left _ (by omega)
      omega
    omega

theorem val_replicate : ∀ n, val (List.replicate n 0) = 0
  | 0 => rfl
  | n + 1 => by simp [List.replicate_succ, val, val_replicate n]

/-- Digits are those of their number, but for noughts on top. -/
theorem dg_val : ∀ {a : List Int}, Dig a → ∃ k, a = dg (val a) ++ List.replicate k 0
  | [], _ => ⟨0, by simp [val, dg_zero]⟩
  | d :: a, h => by
    obtain ⟨h1, h2⟩ := dig_cons.1 h
    obtain ⟨k, hk⟩ := dg_val h2
    by_cases hz : d.toNat + 18446744073709551616 * val a = 0
    · have hd : d = 0 := by omega
      have hv : val a = 0 := by omega
      rw [hv, dg_zero] at hk
      refine ⟨k + 1, ?_⟩
      simp only [val]
      rw [hz, dg_zero, hd, hk]
      simp [List.replicate_succ]
    · refine ⟨k, ?_⟩
      simp only [val]
      rw [dg_pos hz]
      have e1 : (d.toNat + 18446744073709551616 * val a) % 18446744073709551616 = d.toNat := by omega
      have e2 : (d.toNat + 18446744073709551616 * val a) / 18446744073709551616 = val a := by omega
      rw [e1, e2, List.cons_append, ← hk]
      congr 1
      omega

theorem nrm_nil : Nrm [] := by unfold Nrm; simp [val, dg_zero]

/-- What has no nought on top is the digits of its number. -/
theorem nrm_of {a : List Int} (h : Dig a) (ht : ∀ d, a.getLast? = some d → d ≠ 0) : Nrm a := by
  obtain ⟨k, hk⟩ := dg_val h
  cases k with
  | zero => unfold Nrm; simpa using hk
  | succ k =>
    exfalso
    refine ht 0 ?_ rfl
    rw [hk, List.replicate_succ', ← List.append_assoc]
    simp

theorem Nrm.top {a : List Int} (h : Nrm a) {d : Int} (hd : a.getLast? = some d) : d ≠ 0 := by
  have key : ∀ n, ∀ d, (dg n).getLast? = some d → d ≠ 0 := by
    intro n
    induction n using Nat.strongRecOn with
    | _ n ih =>
      intro d hd
      by_cases hn : n = 0
      · subst hn; rw [dg_zero] at hd; cases hd
      · rw [dg_pos hn] at hd
        by_cases hq : n / 18446744073709551616 = 0
        · rw [hq, dg_zero] at hd
          simp at hd
          omega
        · refine ih (n / 18446744073709551616) (by omega) d ?_
          rw [dg_pos hq] at hd ⊢
          rwa [List.getLast?_cons_cons] at hd
  rw [h] at hd
  exact key _ d hd

theorem nrm_tail {d : Int} {a : List Int} (h : Nrm (d :: a)) : Nrm a := by
  have hd := h.dig
  refine nrm_of (dig_cons.1 hd).2 fun e he => h.top ?_
  cases a with
  | nil => cases he
  | cons x r => rwa [List.getLast?_cons_cons]

theorem len_dg_le {n k : Nat} (h : n < 18446744073709551616 ^ k) : (dg n).length ≤ k := by
  induction k generalizing n with
  | zero => have : n = 0 := by simpa using h
            subst this; rw [dg_zero]; exact Nat.le_refl _
  | succ k ih =>
    by_cases hn : n = 0
    · subst hn; rw [dg_zero]; simp
    · rw [dg_pos hn, List.length_cons]
      have := ih (n := n / 18446744073709551616) (by rw [Nat.pow_succ] at h; exact Nat.div_lt_of_lt_mul (by rw [Nat.mul_comm]; exact h))
      omega

theorem lt_of_len {n : Nat} : n < 18446744073709551616 ^ (dg n).length := by
  have := val_lt (dig_dg n)
  rwa [val_dg] at this

theorem len_dg_mono {n m : Nat} (h : n ≤ m) : (dg n).length ≤ (dg m).length := len_dg_le (Nat.lt_of_le_of_lt h lt_of_len)

theorem len_val {a : List Int} (h : Dig a) : (dg (val a)).length ≤ a.length := len_dg_le (val_lt h)

theorem ge_of_len {n k : Nat} (h : k < (dg n).length) : 18446744073709551616 ^ k ≤ n := by
  rcases Nat.lt_or_ge n (18446744073709551616 ^ k) with h1 | h1
  · have := len_dg_le h1; omega
  · exact h1

theorem val_take_succ {a : List Int} {n : Nat} (h : n < a.length) : val (a.take (n + 1)) = val (a.take n) + 18446744073709551616 ^ n * (a.getD n 0).toNat := by
  rw [List.take_succ_eq_append_getElem h, val_append, List.length_take, Nat.min_eq_left (by omega)]
  simp [val, List.getD_eq_getElem?_getD, h]

theorem val_take_drop (a : List Int) {n : Nat} (h : n ≤ a.length) : val a = val (a.take n) + 18446744073709551616 ^ n * val (a.drop n) := by
  have e := val_append (a.take n) (a.drop n)
  rw [List.take_append_drop, List.length_take, Nat.min_eq_left h] at e
  exact e

theorem getD_mem {a : List Int} {n : Nat} (h : n < a.length) : a.getD n 0 ∈ a := by
  rw [List.getD_eq_getElem?_getD, List.getElem?_eq_getElem h]
  simp
theorem Dig.get {a : List Int} (h : Dig a) (n : Nat) : 0 ≤ a.getD n 0 ∧ a.getD n 0 < 18446744073709551616 := by
  rcases Nat.lt_or_ge n a.length with hn | hn
  · exact h _ (getD_mem hn)
  · rw [List.getD_eq_getElem?_getD, List.getElem?_eq_none hn]; simp

theorem getLast_take {a : List Int} {n : Nat} (h : n < a.length) : (a.take (n + 1)).getLast? = some (a.getD n 0) := by
  rw [List.take_succ_eq_append_getElem h, List.getLast?_append]
  simp [List.getD_eq_getElem?_getD, h]
theorem copy_all {xs : List Int} {n : Nat} (h : n ≤ xs.length) : List.take n (List.drop 0 (List.take n xs)) ++ List.drop (min (List.drop 0 (List.take n xs)).length n) (List.replicate n 0) = xs.take n := by
  have e : (List.drop 0 (List.take n xs)).length = n := by simp; omega
  rw [e, Nat.min_self, List.drop_zero, List.take_take, Nat.min_self]
  simp

theorem getD_none {a : List Int} {n : Nat} (h : a.length ≤ n) : a.getD n 0 = 0 := by
  rw [List.getD_eq_getElem?_getD, List.getElem?_eq_none h]; rfl
theorem val_take_ge {a : List Int} {n : Nat} (h : a.length ≤ n) : val (a.take n) = val a := by rw [List.take_of_length_le h]
/-- One digit more of what is taken, whether there is one or not. -/
theorem val_take_one {a : List Int} (n : Nat) : val (a.take (n + 1)) = val (a.take n) + 18446744073709551616 ^ n * (a.getD n 0).toNat := by
  rcases Nat.lt_or_ge n a.length with h | h
  · exact val_take_succ h
  · rw [val_take_ge (by omega), val_take_ge h, getD_none h]; simp
theorem val_take_lt {a : List Int} (h : Dig a) (n : Nat) : val (a.take n) < 18446744073709551616 ^ n := by
  have := val_lt (h.take n)
  exact Nat.lt_of_lt_of_le this (Nat.pow_le_pow_right (by omega) (by rw [List.length_take]; omega))
theorem val_push {a : List Int} {d : Int} : val (a ++ [d]) = val a + 18446744073709551616 ^ a.length * d.toNat := by
  rw [val_append]; simp [val]
theorem dig_push {a : List Int} {d : Int} (h : Dig a) (hd : 0 ≤ d ∧ d < 18446744073709551616) : Dig (a ++ [d]) := by
  rw [dig_append, dig_cons]; exact ⟨h, hd, dig_nil⟩
theorem nrm_dg' {a : List Int} (h : Nrm a) : dg (val a) = a := h.symm
theorem nrm_len_lt {a b : List Int} (ha : Dig a) (hb : Nrm b) (h : a.length < b.length) : val a < val b := by
  have h1 := val_lt ha
  have h2 : 18446744073709551616 ^ a.length ≤ val b := ge_of_len (by rw [← hb]; exact h)
  omega
theorem nrm_eq {a b : List Int} (ha : Nrm a) (hb : Nrm b) (h : val a = val b) : a = b := by rw [ha, hb, h]
theorem len_zero {a : List Int} (ha : Nrm a) : a.length = 0 ↔ val a = 0 := by
  constructor
  · intro h; have : a = [] := List.length_eq_zero_iff.1 h; subst this; rfl
  · intro h; rw [ha, h, dg_zero]; rfl
theorem dg_len_zero {n : Nat} : (dg n).length = 0 ↔ n = 0 := by rw [len_zero (nrm_dg n), val_dg]
theorem dig_set {a : List Int} (h : Dig a) {n : Nat} {d : Int} (hd : 0 ≤ d ∧ d < 18446744073709551616) : Dig (a.set n d) := by
  intro x hx
  rcases List.mem_or_eq_of_mem_set hx with h1 | h1
  · exact h x h1
  · subst h1; exact hd
theorem val_drop_set {a : List Int} {n : Nat} (h : n < a.length) (d : Int) : val ((a.set n d).drop n) = d.toNat + 18446744073709551616 * val (a.drop (n + 1)) := by
  have e : (a.set n d).drop n = d :: a.drop (n + 1) := by
    rw [List.drop_eq_getElem_cons (by simpa using h)]
    simp [List.drop_set]
  rw [e]; rfl
theorem val_drop_one {a : List Int} (n : Nat) : val (a.drop n) = (a.getD n 0).toNat + 18446744073709551616 * val (a.drop (n + 1)) := by
  rcases Nat.lt_or_ge n a.length with h | h
  · rw [List.drop_eq_getElem_cons h]
    simp [val, List.getD_eq_getElem?_getD, h]
  · rw [List.drop_eq_nil_of_le h, List.drop_eq_nil_of_le (by omega), getD_none h]; rfl
theorem div_step {l B n d r w : Nat} (hw : 0 < w) : ((l * B + d) * n + r) / w = (((l * B + d) % w) * n + r) / w + n * ((l * B + d) / w) := by
  have h := Nat.div_add_mod (l * B + d) w
  have e : (l * B + d) * n + r = ((l * B + d) % w * n + r) + w * (n * ((l * B + d) / w)) := by
    generalize l * B + d = t at *
    generalize t / w = q at *
    generalize t % w = m at *
    subst h
    rw [Nat.add_mul]
    have : w * q * n = w * (n * q) := by rw [Nat.mul_assoc, Nat.mul_comm q n]
    omega
  rw [e, Nat.add_mul_div_left _ _ hw]
theorem mod_step {l B n d r w : Nat} : ((l * B + d) * n + r) % w = (((l * B + d) % w) * n + r) % w := by
  conv => rhs; rw [Nat.add_mod, Nat.mul_mod, Nat.mod_mod, ← Nat.mul_mod, ← Nat.add_mod]
theorem toNat_lt {d : Int} {k : Nat} (h : 0 ≤ d ∧ d < (k : Int)) : d.toNat < k := by omega

end Go.Proofs.Ytnhebddoclhnnaa.M6

/- Whole numbers with a sign, as they lie. No program is in sight. -/
namespace Go.Proofs.Ytnhebddoclhnnaa.M
open Go Go.Proofs.Ytnhebddoclhnnaa.AI

def zs (b : Bool) (n : Nat) : Int := bif b then -(n : Int) else n
def zv (x : Bool × List Int) : Int := zs x.1 (val x.2)
/-- In form, and not too long. -/
def Zok (x : Bool × List Int) : Prop := Nrm x.2 ∧ (x.1 = true → val x.2 ≠ 0) ∧ x.2.length ≤ 549755813888
def isNeg (z : Int) : Bool := match z with
  | .negSucc _ => true
  | .ofNat _ => false
/-- A number in form, as its cells. -/
def zD (z : Int) : D := .agg [.sc (.bool (isNeg z)), .ints .u32 (dg z.natAbs)]
theorem isNeg_iff {z : Int} : isNeg z = true ↔ z < 0 := by cases z <;> simp [isNeg] <;> omega
theorem isNeg_false {z : Int} : isNeg z = false ↔ 0 ≤ z := by cases z <;> simp [isNeg] <;> omega
theorem zv_zD (z : Int) : zv (isNeg z, dg z.natAbs) = z := by
  unfold zv zs
  simp only [val_dg]
  cases h : isNeg z with
  | true => have := isNeg_iff.1 h; simp only [cond_true]; omega
  | false => have := isNeg_false.1 h; simp only [cond_false]; omega
theorem zok_zD {z : Int} (h : (dg z.natAbs).length ≤ 549755813888) : Zok (isNeg z, dg z.natAbs) := by
  refine ⟨nrm_dg _, fun hn => ?_, h⟩
  rw [val_dg]
  have := isNeg_iff.1 hn
  omega
/-- Numbers of not too many bits. -/
theorem zok_bits {z : Int} {k : Nat} (h : z.natAbs < 2 ^ k) (hk : k ≤ 17179869184) : Zok (isNeg z, dg z.natAbs) :=
  zok_zD (Nat.le_trans (len_dg_bits h) (by omega))
theorem zs_neg (b : Bool) (n : Nat) : isNeg (zs b n) = (b && decide (n ≠ 0)) := by
  unfold zs
  cases b with
  | false => simp only [cond_false, Bool.false_and]; exact isNeg_false.2 (by omega)
  | true =>
    simp only [cond_true, Bool.true_and]
    by_cases h : n = 0
    · subst h; rfl
    · rw [decide_eq_true h]; exact isNeg_iff.2 (by omega)
theorem zs_abs (b : Bool) (n : Nat) : (zs b n).natAbs = n := by
  unfold zs
  cases b <;> simp
theorem zD_zs (b : Bool) (n : Nat) : zD (zs b n) = .agg [.sc (.bool (b && decide (n ≠ 0))), .ints .u32 (dg n)] := by
  unfold zD
  rw [zs_neg, zs_abs]
/-- Of one in form: its sign, its digits. -/
theorem Zok.cells {x : Bool × List Int} (h : Zok x) : isNeg (zv x) = x.1 ∧ dg (zv x).natAbs = x.2 := by
  obtain ⟨h1, h2, h3⟩ := h
  unfold zv
  rw [zs_neg, zs_abs, ← h1]
  refine ⟨?_, rfl⟩
  cases hx : x.1 with
  | false => rfl
  | true => rw [decide_eq_true (h2 hx)]; rfl
theorem Zok.len {x : Bool × List Int} (h : Zok x) : x.2.length ≤ 549755813888 := h.2.2
theorem zv_abs (x : Bool × List Int) : (zv x).natAbs = val x.2 := zs_abs _ _
theorem zv_neg {x : Bool × List Int} (h : x.1 = true) : zv x = -(val x.2 : Int) := by unfold zv zs; rw [h]; rfl
theorem zv_pos {x : Bool × List Int} (h : x.1 = false) : zv x = (val x.2 : Int) := by unfold zv zs; rw [h]; rfl
theorem len_dg_add (a b : Nat) : (dg (a + b)).length ≤ max (dg a).length (dg b).length + 1 := by
  apply len_dg_le
  have h1 := lt_of_len (n := a)
  have h2 := lt_of_len (n := b)
  have h3 : 4294967296 ^ (dg a).length ≤ 4294967296 ^ max (dg a).length (dg b).length := Nat.pow_le_pow_right (by omega) (by omega)
  have h4 : 4294967296 ^ (dg b).length ≤ 4294967296 ^ max (dg a).length (dg b).length := Nat.pow_le_pow_right (by omega) (by omega)
  rw [Nat.pow_succ]
  generalize 4294967296 ^ max (dg a).length (dg b).length = p at *
  omega
def cmpZ (a b : Int) : Int := if a < b then -1 else if b < a then 1 else 0
theorem dg_one : dg 1 = [1] := by simp [dg]
theorem cmpN_ge {a b : Nat} : 0 ≤ cmpN a b ↔ b ≤ a := by unfold cmpN; split <;> (try split) <;> omega

theorem len_dg_shl (n k : Nat) : (dg (n * 2 ^ k)).length ≤ (dg n).length + k / 32 + 1 := by
  apply len_dg_le
  have h1 := lt_of_len (n := n)
  have h2 : 2 ^ k ≤ 4294967296 ^ (k / 32 + 1) := by rw [pow32]; exact Nat.pow_le_pow_right (by omega) (by omega)
  have h3 : 0 < 2 ^ k := Nat.pow_pos (by omega)
  rw [show (dg n).length + k / 32 + 1 = (dg n).length + (k / 32 + 1) from by omega, Nat.pow_add]
  have h4 : n * 2 ^ k < 4294967296 ^ (dg n).length * 2 ^ k := Nat.mul_lt_mul_of_pos_right h1 h3
  exact Nat.lt_of_lt_of_le h4 (Nat.mul_le_mul_left _ h2)
theorem len_dg_sub (a b : Nat) : (dg (a - b)).length ≤ (dg a).length := len_dg_mono (Nat.sub_le _ _)
theorem len_dg_div (a b : Nat) : (dg (a / b)).length ≤ (dg a).length := len_dg_mono (Nat.div_le_self _ _)
theorem bl_len {a : List Int} (h : Dig a) {n : Nat} (hn : a.length ≤ n) : bl (val a) ≤ 32 * n := by
  rw [bl_le, ← pow32]
  exact Nat.lt_of_lt_of_le (val_lt h) (Nat.pow_le_pow_right (by omega) hn)
theorem bl_add_le (a b : Nat) : bl (a + b) ≤ max (bl a) (bl b) + 1 := by
  rw [bl_le, Nat.pow_succ]
  have h1 := lt_bl a
  have h2 := lt_bl b
  have h3 : 2 ^ bl a ≤ 2 ^ max (bl a) (bl b) := Nat.pow_le_pow_right (by omega) (by omega)
  have h4 : 2 ^ bl b ≤ 2 ^ max (bl a) (bl b) := Nat.pow_le_pow_right (by omega) (by omega)
  omega
theorem bl_mul_le (a b : Nat) : bl (a * b) ≤ bl a + bl b := by
  rw [bl_le, Nat.pow_add]
  exact Nat.mul_lt_mul'' (lt_bl a) (lt_bl b)
theorem zok_bl {z : Int} {k : Nat} (h : bl z.natAbs ≤ k) (hk : k ≤ 17179869184) : Zok (isNeg z, dg z.natAbs) := zok_bits (bl_le.1 h) hk
theorem len_bl {n k : Nat} (h : bl n ≤ k) : (dg n).length ≤ k / 32 + 1 := len_dg_bits (bl_le.1 h)
theorem cmpZ_sub (a b : Int) : cmpZ (a - b) 0 = cmpZ a b := by unfold cmpZ; split <;> split <;> (try split) <;> (try split) <;> omega
theorem nrm_len {x : List Int} (h : Nrm x) : (dg (val x)).length = x.length := by rw [← h]

/- The formats. -/
abbrev K6 := Int × Int × Int × Int × Int × Int
def kf (w : Bool) : K6 := bif w then (9223372036854775808, 53, -1074, 971, 9218868437227405312, 9221120237041090561) else (2147483648, 24, -149, 104, 2139095040, 2143289345)
def IsK (k : K6) : Prop := k = kf true ∨ k = kf false
/-- The precision; the hidden bit; the least exponent. -/
def kP (k : K6) : Nat := k.2.1.toNat
def kH (k : K6) : Nat := 2 ^ (kP k - 1)
def kE (k : K6) : Int := k.2.2.1
def kG (k : K6) : Int := k.2.2.2.1
def kI (k : K6) : Int := k.2.2.2.2.1
def partM (k : K6) (b : Nat) : Nat := if b / kH k = 0 then b else kH k + b % kH k
/-- How far above the least exponent. -/
def partX (k : K6) (b : Nat) : Nat := b / kH k - 1
def wholeN (k : K6) (b : Nat) : Nat := partM k b * 2 ^ partX k b
def sizeN (k : K6) (n : Nat) : Nat := if bl n < kP k then n else (bl n - kP k) * kH k + n / 2 ^ (bl n - kP k)
def holdZ (m : Int) (e : Int) (l : Int) (f : Int) : Int := cmpZ (m * 2 ^ (e - f).toNat) (l * 2 ^ (f - e).toNat)
/-- Which of s and the size behind it. -/
def roundS (k : K6) (n : Nat) (e : Int) (s : Nat) : Int :=
  min (if 0 < holdZ n e (wholeN k s + wholeN k (s + 1) : Nat) (kE k - 1) ∨ (holdZ n e (wholeN k s + wholeN k (s + 1) : Nat) (kE k - 1) = 0 ∧ s % 2 = 1) then (s : Int) + 1 else s) (kI k)
/-- The size of n * 2^e, rounded. -/
def roundN (k : K6) (n : Nat) (e : Int) : Int :=
  if n = 0 ∨ (bl n : Int) + e < kE k then 0 else if kG k + kP k < (bl n : Int) + e then kI k else
    roundS k n e (sizeN k (if kE k ≤ e then n * 2 ^ (e - kE k).toNat else n / 2 ^ (kE k - e).toNat))
end Go.Proofs.Ytnhebddoclhnnaa.M

/- The table of types of this program, and what all functions' texts begin with. -/
namespace Go.Proofs.Ytnhebddoclhnnaa.W
open Go Go.Proofs.Ytnhebddoclhnnaa.AI
noncomputable def tbl : List (Nat × TI) := [
  (2, { size := nat_lit 1, bytes := nat_lit 8, zero := [Value.int IntKind.i64 (Int.ofNat (nat_lit 0))], kind := TK.int IntKind.i64 }),
  (3, { size := nat_lit 1, bytes := nat_lit 8, zero := [Value.int IntKind.i64 (Int.ofNat (nat_lit 0))], kind := TK.int IntKind.i64 }),
  (4, { size := nat_lit 1, bytes := nat_lit 1, zero := [Value.bool false], kind := TK.bool }),
  (5, { size := nat_lit 1, bytes := nat_lit 1, zero := [Value.int IntKind.u8 (Int.ofNat (nat_lit 0))], kind := TK.int IntKind.u8 }),
  (6, { size := nat_lit 1, bytes := nat_lit 1, zero := [Value.int IntKind.u8 (Int.ofNat (nat_lit 0))], kind := TK.int IntKind.u8 }),
  (7, { size := nat_lit 4, bytes := nat_lit 24, zero := [Value.int IntKind.i64 (Int.ofNat (nat_lit 0)), Value.int IntKind.i64 (Int.ofNat (nat_lit 0)), Value.bool false, Value.int IntKind.u8 (Int.ofNat (nat_lit 0))], kind := TK.struct [(nat_lit 0, nat_lit 1, false), (nat_lit 1, nat_lit 1, false), (nat_lit 2, nat_lit 1, false), (nat_lit 3, nat_lit 1, false)] }),
  (8, { size := nat_lit 4, bytes := nat_lit 24, zero := [Value.int IntKind.i64 (Int.ofNat (nat_lit 0)), Value.int IntKind.i64 (Int.ofNat (nat_lit 0)), Value.bool false, Value.int IntKind.u8 (Int.ofNat (nat_lit 0))], kind := TK.struct [(nat_lit 0, nat_lit 1, false), (nat_lit 1, nat_lit 1, false), (nat_lit 2, nat_lit 1, false), (nat_lit 3, nat_lit 1, false)] }),
  (12, { size := nat_lit 1, bytes := nat_lit 8, zero := [Value.int IntKind.u64 (Int.ofNat (nat_lit 0))], kind := TK.int IntKind.u64 }),
  (18, { size := nat_lit 1, bytes := nat_lit 8, zero := [Value.pointer none], kind := TK.struct [(nat_lit 0, nat_lit 1, false)] }),
  (19, { size := nat_lit 1, bytes := nat_lit 8, zero := [Value.pointer none], kind := TK.struct [(nat_lit 0, nat_lit 1, false)] }),
  (21, { size := nat_lit 1, bytes := nat_lit 4, zero := [Value.int IntKind.i32 (Int.ofNat (nat_lit 0))], kind := TK.int IntKind.i32 }),
  (22, { size := nat_lit 1, bytes := nat_lit 8, zero := [Value.float FloatKind.f64 (nat_lit 0)], kind := TK.float FloatKind.f64 }),
  (23, { size := nat_lit 3, bytes := nat_lit 24, zero := [Value.float FloatKind.f64 (nat_lit 0), Value.float FloatKind.f64 (nat_lit 0), Value.float FloatKind.f64 (nat_lit 0)], kind := TK.arr (nat_lit 3) (nat_lit 1) false }),
  (25, { size := nat_lit 1, bytes := nat_lit 8, zero := [Value.int IntKind.u64 (Int.ofNat (nat_lit 0))], kind := TK.int IntKind.u64 }),
  (26, { size := nat_lit 3, bytes := nat_lit 24, zero := [Value.int IntKind.u64 (Int.ofNat (nat_lit 0)), Value.int IntKind.u64 (Int.ofNat (nat_lit 0)), Value.int IntKind.u64 (Int.ofNat (nat_lit 0))], kind := TK.arr (nat_lit 3) (nat_lit 1) false }),
  (30, { size := nat_lit 1, bytes := nat_lit 24, zero := [Value.slice none (nat_lit 0) (nat_lit 0)], kind := TK.slice (nat_lit 42) }),
  (35, { size := nat_lit 2, bytes := nat_lit 32, zero := [Value.bool false, Value.slice none (nat_lit 0) (nat_lit 0)], kind := TK.struct [(nat_lit 0, nat_lit 1, false), (nat_lit 1, nat_lit 1, false)] }),
  (36, { size := nat_lit 2, bytes := nat_lit 32, zero := [Value.bool false, Value.slice none (nat_lit 0) (nat_lit 0)], kind := TK.struct [(nat_lit 0, nat_lit 1, false), (nat_lit 1, nat_lit 1, false)] }),
  (42, { size := nat_lit 1, bytes := nat_lit 4, zero := [Value.int IntKind.u32 (Int.ofNat (nat_lit 0))], kind := TK.int IntKind.u32 }),
  (44, { size := nat_lit 6, bytes := nat_lit 48, zero := [Value.int IntKind.u64 (Int.ofNat (nat_lit 0)), Value.int IntKind.i64 (Int.ofNat (nat_lit 0)), Value.int IntKind.i64 (Int.ofNat (nat_lit 0)), Value.int IntKind.i64 (Int.ofNat (nat_lit 0)), Value.int IntKind.u64 (Int.ofNat (nat_lit 0)), Value.int IntKind.u64 (Int.ofNat (nat_lit 0))], kind := TK.struct [(nat_lit 0, nat_lit 1, false), (nat_lit 1, nat_lit 1, false), (nat_lit 2, nat_lit 1, false), (nat_lit 3, nat_lit 1, false), (nat_lit 4, nat_lit 1, false), (nat_lit 5, nat_lit 1, false)] }),
  (45, { size := nat_lit 6, bytes := nat_lit 48, zero := [Value.int IntKind.u64 (Int.ofNat (nat_lit 0)), Value.int IntKind.i64 (Int.ofNat (nat_lit 0)), Value.int IntKind.i64 (Int.ofNat (nat_lit 0)), Value.int IntKind.i64 (Int.ofNat (nat_lit 0)), Value.int IntKind.u64 (Int.ofNat (nat_lit 0)), Value.int IntKind.u64 (Int.ofNat (nat_lit 0))], kind := TK.struct [(nat_lit 0, nat_lit 1, false), (nat_lit 1, nat_lit 1, false), (nat_lit 2, nat_lit 1, false), (nat_lit 3, nat_lit 1, false), (nat_lit 4, nat_lit 1, false), (nat_lit 5, nat_lit 1, false)] }),
  (52, { size := nat_lit 1, bytes := nat_lit 8, zero := [Value.int IntKind.u64 (Int.ofNat (nat_lit 0))], kind := TK.int IntKind.u64 }),
  (59, { size := nat_lit 1, bytes := nat_lit 8, zero := [Value.int IntKind.i64 (Int.ofNat (nat_lit 0))], kind := TK.int IntKind.i64 }),
  (70, { size := nat_lit 1, bytes := nat_lit 24, zero := [Value.slice none (nat_lit 0) (nat_lit 0)], kind := TK.slice (nat_lit 25) }),
  (76, { size := nat_lit 0, bytes := nat_lit 0, zero := [], kind := TK.arr (nat_lit 0) (nat_lit 1) false }),
  (77, { size := nat_lit 0, bytes := nat_lit 0, zero := [], kind := TK.struct [(nat_lit 0, nat_lit 0, true)] }),
  (78, { size := nat_lit 0, bytes := nat_lit 0, zero := [], kind := TK.struct [(nat_lit 0, nat_lit 0, true)] }),
  (80, { size := nat_lit 1, bytes := nat_lit 1, zero := [Value.int IntKind.u8 (Int.ofNat (nat_lit 0))], kind := TK.int IntKind.u8 }),
  (81, { size := nat_lit 1, bytes := nat_lit 1, zero := [Value.int IntKind.u8 (Int.ofNat (nat_lit 0))], kind := TK.int IntKind.u8 }),
  (84, { size := nat_lit 1, bytes := nat_lit 4, zero := [Value.int IntKind.i32 (Int.ofNat (nat_lit 0))], kind := TK.int IntKind.i32 }),
  (85, { size := nat_lit 1, bytes := nat_lit 4, zero := [Value.int IntKind.i32 (Int.ofNat (nat_lit 0))], kind := TK.int IntKind.i32 }),
  (86, { size := nat_lit 11, bytes := nat_lit 48, zero := [Value.int IntKind.u64 (Int.ofNat (nat_lit 0)), Value.int IntKind.u64 (Int.ofNat (nat_lit 0)), Value.int IntKind.u32 (Int.ofNat (nat_lit 0)), Value.int IntKind.u8 (Int.ofNat (nat_lit 0)), Value.int IntKind.u8 (Int.ofNat (nat_lit 0)), Value.int IntKind.u8 (Int.ofNat (nat_lit 0)), Value.int IntKind.u8 (Int.ofNat (nat_lit 0)), Value.nilFunc, Value.pointer none, Value.int IntKind.i32 (Int.ofNat (nat_lit 0)), Value.int IntKind.i32 (Int.ofNat (nat_lit 0))], kind := TK.struct [(nat_lit 0, nat_lit 1, false), (nat_lit 1, nat_lit 1, false), (nat_lit 2, nat_lit 1, false), (nat_lit 3, nat_lit 1, false), (nat_lit 4, nat_lit 1, false), (nat_lit 5, nat_lit 1, false), (nat_lit 6, nat_lit 1, false), (nat_lit 7, nat_lit 1, false), (nat_lit 8, nat_lit 1, false), (nat_lit 9, nat_lit 1, false), (nat_lit 10, nat_lit 1, false)] }),
  (87, { size := nat_lit 11, bytes := nat_lit 48, zero := [Value.int IntKind.u64 (Int.ofNat (nat_lit 0)), Value.int IntKind.u64 (Int.ofNat (nat_lit 0)), Value.int IntKind.u32 (Int.ofNat (nat_lit 0)), Value.int IntKind.u8 (Int.ofNat (nat_lit 0)), Value.int IntKind.u8 (Int.ofNat (nat_lit 0)), Value.int IntKind.u8 (Int.ofNat (nat_lit 0)), Value.int IntKind.u8 (Int.ofNat (nat_lit 0)), Value.nilFunc, Value.pointer none, Value.int IntKind.i32 (Int.ofNat (nat_lit 0)), Value.int IntKind.i32 (Int.ofNat (nat_lit 0))], kind := TK.struct [(nat_lit 0, nat_lit 1, false), (nat_lit 1, nat_lit 1, false), (nat_lit 2, nat_lit 1, false), (nat_lit 3, nat_lit 1, false), (nat_lit 4, nat_lit 1, false), (nat_lit 5, nat_lit 1, false), (nat_lit 6, nat_lit 1, false), (nat_lit 7, nat_lit 1, false), (nat_lit 8, nat_lit 1, false), (nat_lit 9, nat_lit 1, false), (nat_lit 10, nat_lit 1, false)] })]
theorem ty_ok : TyOk Try.prog (tlook tbl) := tyOk_of tbl (by kernel_rfl) (by kernel_rfl)
def ext : FuncId → List Value → Option (Prop × List Value) := (extIs 6 gBits extNone)
theorem ext_ok : ExtOk Try.prog ext := (extIs_ok (extFn_of (P := Try.prog) (f := 6) (fn := Try.f6) (e := Extern.MathFloatBits.float64bits) Try.func6 rfl rfl (by kernel_rfl) (by kernel_rfl)) gBits_ok extNone_ok)
noncomputable def base : Env := { T := tlook tbl, C := fun _ _ => none, ext := ext, glob := fun _ => none, nt := 0, own := [], keep := fun _ => [], roll := fun _ => none, cut := fun _ => none }
theorem mixed : Try.prog.follows .mixedOrders = true := by kernel_rfl
abbrev tU32 : TypeId := 42
abbrev tU64 : TypeId := 25
abbrev tU8 : TypeId := 5
end Go.Proofs.Ytnhebddoclhnnaa.W

/- gnomon/fastreduce.Parts -/
namespace Go.Proofs.Ytnhebddoclhnnaa.W
open Go Go.Proofs.Ytnhebddoclhnnaa.AI Go.Proofs.Ytnhebddoclhnnaa.M
namespace Parts
noncomputable def E : Env := { (base) with nt := 2, own := [], keep := fun k => (tlook [] k).getD [], cut := tlook [] }
noncomputable def cod : Code := (Go.Proofs.Try.f4.body).getD .skip
theorem nok : namesOk E cod = true := by kernel_rfl
theorem start : evalFn E Go.Proofs.Try.f4 cod [] = some [D.agg [S.sc (Value.float FloatKind.f64 (4609753056924401664 : Nat)), S.sc (Value.float FloatKind.f64 (4454258360616747008 : Nat)), S.sc (Value.float FloatKind.f64 (4297306550709743731 : Nat))]] := (evalFn_J rfl nok _).trans (by kernel_rfl)
-- stuck: 0
end Parts
namespace Parts
noncomputable def sp : Prop × List D := (True, [.agg [.sc (.float .f64 4609753056924401664), .sc (.float .f64 4454258360616747008), .sc (.float .f64 4297306550709743731)]])
theorem spec (_ : sp.1) : evalFn E Try.f4 cod [] = some sp.2 := start

noncomputable def orc : Orc := orc0  sp
theorem fnok : FnOk Try.prog E 4 Try.f4 cod := fnOk ty_ok mixed (callsOk_of _ rfl orcs_nil (ext_ok)) Try.func4 rfl rfl rfl
theorem ok : OrcOk Try.prog base.glob 4 orc := fnok.ok0 spec
end Parts
end Go.Proofs.Ytnhebddoclhnnaa.W

/- gnomon/gnomonref01.Norm -/
namespace Go.Proofs.Ytnhebddoclhnnaa.W
open Go Go.Proofs.Ytnhebddoclhnnaa.AI Go.Proofs.Ytnhebddoclhnnaa.M
namespace Norm
noncomputable def E : Env := { (base) with nt := 27, own := [], keep := fun k => (tlook [(2, [0, 3])] k).getD [], cut := tlook [(4, [0, 3])] }
noncomputable def cod : Code := (Go.Proofs.Try.f18.body).getD .skip
theorem nok : namesOk E cod = true := by kernel_rfl
noncomputable def L2 (xs0 : List Int) (x1 : Int) : Option (List D) := lpO E Go.Proofs.Try.f18 cod 2 [(A.v (V.one (L.s (S.ints IntKind.u32 xs0))), none), (A.v (V.one (L.s (S.sc (Value.int IntKind.i64 x1)))), none)]
noncomputable def J4 (xs0 : List Int) (x1 : Int) : Option (List D) := ctO E Go.Proofs.Try.f18 cod 4 [(A.v (V.one (L.s (S.ints IntKind.u32 xs0))), none), (A.v (V.one (L.s (S.sc (Value.int IntKind.i64 x1)))), none)]
theorem start (a : List Int) : evalFn E Go.Proofs.Try.f18 cod [D.s (S.ints IntKind.u32 a)] = Norm.L2 a (↑a.length : Int) := (evalFn_J rfl nok _).trans (by kernel_rfl)
theorem L2_eq (xs0 : List Int) (x1 : Int) : L2 xs0 x1 = bcase (decide ((0 : Int) < x1)) (if (0 : Int) ≤ IntKind.i64.wrap (x1 - (1 : Int)) ∧ IntKind.i64.wrap (x1 - (1 : Int)) < (↑xs0.length : Int) then bcase (xs0.getD (IntKind.i64.wrap (x1 - (1 : Int))).toNat (0 : Int) == (0 : Int)) (Norm.L2 xs0 (IntKind.i64.wrap (x1 - (1 : Int)))) (Norm.J4 xs0 x1) else none) (Norm.J4 xs0 x1) := (loopAt_J rfl nok 2 _).trans (by kernel_rfl)
theorem J4_eq (xs0 : List Int) (x1 : Int) : J4 xs0 x1 = if (0 : Int) ≤ x1 ∧ x1 ≤ x1 ∧ x1 ≤ (8796093022208 : Int) then if (0 : Int) ≤ (0 : Int) ∧ (0 : Int) ≤ x1 ∧ x1 ≤ (↑xs0.length : Int) then some [D.own (42 : Nat) IntKind.u32 (List.take x1.toNat (List.drop (0 : Nat) (List.take x1.toNat xs0)) ++ List.drop (min (List.drop (0 : Nat) (List.take x1.toNat xs0)).length x1.toNat) (List.replicate x1.toNat (0 : Int)))] else none else none := (cutAt_J rfl nok 4 _).trans (by kernel_rfl)
-- stuck: 0
end Norm
namespace Norm
theorem J {xs : List Int} {n : Nat} (h : n ≤ xs.length) (hl : xs.length ≤ 4398046511104) : J4 xs n = some [D.own tU32 .u32 (xs.take n)] := by
  rw [J4_eq, if_pos (by omega), if_pos (by omega)]
  simp only [Int.toNat_natCast]
  rw [copy_all h]

theorem L {xs : List Int} (hd : Dig xs) (hl : xs.length ≤ 4398046511104) : ∀ n : Nat, n ≤ xs.length → L2 xs n = some [D.own tU32 .u32 (dg (val (xs.take n)))]
  | 0, h => by
    rw [L2_eq]
    simp only [bcase, Int.natCast_zero, Int.lt_irrefl, decide_false, cond_false]
    rw [show ((0 : Int)) = ((0 : Nat) : Int) from rfl, J (by omega) hl]
    simp [val, dg_zero]
  | n + 1, h => by
    rw [L2_eq]
    have e : IntKind.i64.wrap (((n + 1 : Nat) : Int) - 1) = (n : Int) := by rw [wrap_i64 (by omega) (by omega)]; omega
    rw [e]
    have e2 : decide ((0 : Int) < ((n + 1 : Nat) : Int)) = true   := by simp
    simp only [bcase, e2, cond_true, Int.toNat_natCast]
    rw [if_pos (by omega)]
    cases hz : xs.getD n 0 == 0 with
    | true =>
      have hz := eq_of_beq hz
      simp only [cond_true]
      rw [L hd hl n (by omega), val_take_succ (by omega), hz]
      simp
    | false =>
      have hz : xs.getD n 0 ≠ 0 := by simpa using hz
      simp only [cond_false]
      rw [J h hl]
      have : Nrm (xs.take (n + 1)) := nrm_of (hd.take _) fun d hg => by
        rw [getLast_take (by omega)] at hg
        cases hg
        exact hz
      rw [← this]

noncomputable def sp (a : List Int) : Prop × List D := (Dig a ∧ a.length ≤ 4398046511104, [.own tU32 .u32 (dg (val a))])
theorem spec (a : List Int) (h : (sp a).1) : evalFn E Try.f18 cod [(pI .u32).put a] = some (sp a).2 := by
  obtain ⟨hd, hl⟩ := h
  refine (start a).trans ?_
  rw [L hd hl a.length (Nat.le_refl _), List.take_length]
  rfl

noncomputable def orc : Orc := orc1 (pI .u32) sp
theorem fnok : FnOk Try.prog E 18 Try.f18 cod := fnOk ty_ok mixed (callsOk_of _ rfl orcs_nil (ext_ok)) Try.func18 rfl rfl rfl
theorem ok : OrcOk Try.prog base.glob 18 orc := fnok.ok1 rfl spec
end Norm
end Go.Proofs.Ytnhebddoclhnnaa.W

/- gnomon/gnomonref01.Word -/
namespace Go.Proofs.Ytnhebddoclhnnaa.W
open Go Go.Proofs.Ytnhebddoclhnnaa.AI Go.Proofs.Ytnhebddoclhnnaa.M
namespace Word
noncomputable def E : Env := { ({ base with C := callsOf [(18, Norm.orc)] }) with nt := 11, own := [10], keep := fun k => (tlook [] k).getD [], cut := tlook [] }
noncomputable def cod : Code := (Go.Proofs.Try.f17.body).getD .skip
theorem nok : namesOk E cod = true := by kernel_rfl
theorem start (a : Int) : evalFn E Go.Proofs.Try.f17 cod [D.s (S.sc (Value.int IntKind.u64 a))] = gif (Dig [IntKind.u32.wrap (bitsI BinOp.and IntKind.u64 a (4294967295 : Int)), IntKind.u32.wrap (a / (4294967296 : Int))] ∧ [IntKind.u32.wrap (bitsI BinOp.and IntKind.u64 a (4294967295 : Int)), IntKind.u32.wrap (a / (4294967296 : Int))].length ≤ (4398046511104 : Nat)) (some [D.own (42 : Nat) IntKind.u32 (dg (val [IntKind.u32.wrap (bitsI BinOp.and IntKind.u64 a (4294967295 : Int)), IntKind.u32.wrap (a / (4294967296 : Int))]))]) := (evalFn_J rfl nok _).trans (by kernel_rfl)
-- stuck: 0
end Word
namespace Word
noncomputable def sp (w : Int) : Prop × List D := (0 ≤ w ∧ w < 18446744073709551616, [.own tU32 .u32 (dg w.toNat)])
theorem spec (w : Int) (h : (sp w).1) : evalFn E Try.f17 cod [(pN .u64).put w] = some (sp w).2 := by
  obtain ⟨h, h'⟩ := h
  refine (start w).trans ?_
  rw [and_mask32 h h', wrap_u32, wrap_u32, gif_pos]
  · unfold sp
    congr 4
    simp only [val]
    omega
  · refine ⟨?_, by simp⟩
    rw [dig_cons, dig_cons]
    exact ⟨by omega, by omega, dig_nil⟩

noncomputable def orc : Orc := orc1 (pN .u64) sp
theorem fnok : FnOk Try.prog E 17 Try.f17 cod := fnOk ty_ok mixed (callsOk_of _ rfl (orcs_cons Norm.ok orcs_nil) (ext_ok)) Try.func17 rfl rfl rfl
theorem ok : OrcOk Try.prog base.glob 17 orc := fnok.ok1 rfl spec
end Word
end Go.Proofs.Ytnhebddoclhnnaa.W

/- gnomon/gnomonref01.MulSmall -/
namespace Go.Proofs.Ytnhebddoclhnnaa.W
open Go Go.Proofs.Ytnhebddoclhnnaa.AI Go.Proofs.Ytnhebddoclhnnaa.M
namespace MulSmall
noncomputable def E : Env := { ({ base with C := callsOf [(18, Norm.orc)] }) with nt := 46, own := [45], keep := fun k => (tlook [(4, [0, 1, 7, 8, 9])] k).getD [], cut := tlook [] }
noncomputable def cod : Code := (Go.Proofs.Try.f23.body).getD .skip
theorem nok : namesOk E cod = true := by kernel_rfl
noncomputable def L4 (xs0 : List Int) (x1 : Int) (m2 : Nat) (xs3 : List Int) (x4 : Int) (x5 : Int) : Option (List D) := lpO E Go.Proofs.Try.f23 cod 4 [(A.v (V.one (L.s (S.ints IntKind.u32 xs0))), none), (A.v (V.one (L.s (S.sc (Value.int IntKind.u32 x1)))), none), (A.v (V.one (L.buf (2 : Nat) m2)), some { e := (42 : Nat), cont := Cont.ints IntKind.u32 xs3 }), (A.v (V.one (L.s (S.sc (Value.int IntKind.u64 x4)))), none), (A.v (V.one (L.s (S.sc (Value.int IntKind.i64 x5)))), none)]
theorem start (a : List Int) (b : Int) (c : Int) : evalFn E Go.Proofs.Try.f23 cod [D.s (S.ints IntKind.u32 a), D.s (S.sc (Value.int IntKind.u32 b)), D.s (S.sc (Value.int IntKind.u32 c))] = if (0 : Int) ≤ (0 : Int) ∧ (0 : Int) ≤ IntKind.i64.wrap ((↑a.length : Int) + (1 : Int)) ∧ IntKind.i64.wrap ((↑a.length : Int) + (1 : Int)) ≤ (8796093022208 : Int) then MulSmall.L4 a b (0 : Nat) (List.replicate (0 : Nat) (0 : Int)) (IntKind.u64.wrap c) (0 : Int) else none := (evalFn_J rfl nok _).trans (by kernel_rfl)
theorem L4_eq (xs0 : List Int) (x1 : Int) (m2 : Nat) (xs3 : List Int) (x4 : Int) (x5 : Int) : L4 xs0 x1 m2 xs3 x4 x5 = bcase (decide (x5 < (↑xs0.length : Int))) (if (0 : Int) ≤ x5 ∧ x5 < (↑xs0.length : Int) then if (0 : Nat) < [IntKind.u32.wrap (bitsI BinOp.and IntKind.u64 (IntKind.u64.wrap (x4 + IntKind.u64.wrap (IntKind.u64.wrap (xs0.getD x5.toNat (0 : Int)) * IntKind.u64.wrap x1))) (4294967295 : Int))].length ∧ (↑(xs3.length + [IntKind.u32.wrap (bitsI BinOp.and IntKind.u64 (IntKind.u64.wrap (x4 + IntKind.u64.wrap (IntKind.u64.wrap (xs0.getD x5.toNat (0 : Int)) * IntKind.u64.wrap x1))) (4294967295 : Int))].length) : Int) ≤ (8796093022208 : Int) then MulSmall.L4 xs0 x1 (xs3.length + [IntKind.u32.wrap (bitsI BinOp.and IntKind.u64 (IntKind.u64.wrap (x4 + IntKind.u64.wrap (IntKind.u64.wrap (xs0.getD x5.toNat (0 : Int)) * IntKind.u64.wrap x1))) (4294967295 : Int))].length) (xs3 ++ [IntKind.u32.wrap (bitsI BinOp.and IntKind.u64 (IntKind.u64.wrap (x4 + IntKind.u64.wrap (IntKind.u64.wrap (xs0.getD x5.toNat (0 : Int)) * IntKind.u64.wrap x1))) (4294967295 : Int))]) (IntKind.u64.wrap (x4 + IntKind.u64.wrap (IntKind.u64.wrap (xs0.getD x5.toNat (0 : Int)) * IntKind.u64.wrap x1)) / (4294967296 : Int)) (IntKind.i64.wrap (x5 + (1 : Int))) else none else none) (if (0 : Nat) < [IntKind.u32.wrap x4].length ∧ (↑(xs3.length + [IntKind.u32.wrap x4].length) : Int) ≤ (8796093022208 : Int) then gif (Dig (xs3 ++ [IntKind.u32.wrap x4]) ∧ (xs3 ++ [IntKind.u32.wrap x4]).length ≤ (4398046511104 : Nat)) (some [D.own (42 : Nat) IntKind.u32 (dg (val (xs3 ++ [IntKind.u32.wrap x4])))]) else none) := (loopAt_J rfl nok 4 _).trans (by kernel_rfl)
-- stuck: 0
end MulSmall
namespace MulSmall
theorem L {a : List Int} {w : Int} (ha : Dig a) (hla : a.length ≤ 1099511627776) (hw : 0 ≤ w) (hw' : w < 4294967296) {r : Nat} : ∀ (d i : Nat) (xs : List Int) (c : Int), Dig xs → xs.length = i → 0 ≤ c → c < 4294967296 →
    i + d = a.length → val xs + 4294967296 ^ i * c.toNat = val (a.take i) * w.toNat + r →
    L4 a w i xs c i = some [D.own tU32 .u32 (dg (val a * w.toNat + r))] := by
  intro d
  induction d with
  | zero =>
    intro i xs c hx hxl h0 h1 hd hv
    rw [L4_eq, bD_neg (by omega), if_pos ⟨by simp, by simp; omega⟩, wrap_u32, Int.emod_eq_of_lt h0 h1, gP ⟨dig_push hx ⟨h0, h1⟩, by simp; omega⟩, val_push, hxl, hv, val_take_ge (by omega)]
  | succ d ih =>
    intro i xs c hx hxl h0 h1 hd hv
    have g1 := ha.get i
    have e' : ((i : Int)).toNat = i := Int.toNat_natCast i
    have hm : a.getD i 0 * w ≤ 4294967295 * 4294967295 := by
      have h1 : a.getD i 0 * w ≤ 4294967295 * w := Int.mul_le_mul_of_nonneg_right (by omega) hw
      have h2 : (4294967295 : Int) * w ≤ 4294967295 * 4294967295 := Int.mul_le_mul_of_nonneg_left (by omega) (by omega)
      omega
    have hm0 : 0 ≤ a.getD i 0 * w := Int.mul_nonneg g1.1 hw
    rw [L4_eq, bD_pos (by omega), if_pos (by omega), e', wrap_u64 (n := a.getD i 0) (by omega) (by omega), wrap_u64 (n := w) (by omega) (by omega), wrap_u64 (n := a.getD i 0 * w) (by omega) (by omega), wrap_u64 (by omega) (by omega),
      and_mask32 (by omega) (by omega), if_pos ⟨by simp, by simp; omega⟩, wrap_u32, Int.emod_emod_of_dvd _ (Int.dvd_refl _), wrap_i64 (by omega) (by omega), hxl]
    show L4 a w (i + 1) _ _ ((i + 1 : Nat) : Int) = _
    refine ih (i + 1) _ _ (dig_push hx (by omega)) (by simp [hxl]) (by omega) (by omega) (by omega) ?_
    rw [val_push, val_take_one, hxl, Nat.pow_succ, Nat.mul_assoc, Nat.add_mul]
    have et : (a.getD i 0 * w).toNat = (a.getD i 0).toNat * w.toNat := Int.toNat_mul g1.1 hw
    have e : 4294967296 * ((c + a.getD i 0 * w) / 4294967296).toNat + ((c + a.getD i 0 * w) % 4294967296).toNat = c.toNat + (a.getD i 0).toNat * w.toNat := by rw [← et]; omega
    generalize a.getD i 0 = x at *
    generalize 4294967296 ^ i = B at *
    have e2 : B * (4294967296 * ((c + x * w) / 4294967296).toNat) + B * ((c + x * w) % 4294967296).toNat = B * c.toNat + B * (x.toNat * w.toNat) := by
      rw [← Nat.mul_add, e, Nat.mul_add]
    rw [Nat.mul_assoc]
    omega

noncomputable def sp (a : List Int) (w c : Int) : Prop × List D := (Dig a ∧ a.length ≤ 1099511627776 ∧ (0 ≤ w ∧ w < 4294967296) ∧ (0 ≤ c ∧ c < 4294967296), [.own tU32 .u32 (dg (val a * w.toNat + c.toNat))])
theorem spec (a : List Int) (w c : Int) (h : (sp a w c).1) : evalFn E Try.f23 cod [(pI .u32).put a, (pN .u32).put w, (pN .u32).put c] = some (sp a w c).2 := by
  obtain ⟨ha, h1, hw, hc⟩ := h
  refine (start a w c).trans ?_
  rw [wrap_i64 (by omega) (by omega), if_pos ⟨by omega, by omega, by omega⟩, wrap_u64 (by omega) (by omega)]
  exact L ha h1 hw.1 hw.2 a.length 0 [] c dig_nil rfl hc.1 hc.2 (by omega) (by simp [val])

noncomputable def orc : Orc := orc3 (pI .u32) (pN .u32) (pN .u32) sp
theorem fnok : FnOk Try.prog E 23 Try.f23 cod := fnOk ty_ok mixed (callsOk_of _ rfl (orcs_cons Norm.ok orcs_nil) (ext_ok)) Try.func23 rfl rfl rfl
theorem ok : OrcOk Try.prog base.glob 23 orc := fnok.ok3 rfl spec
end MulSmall
end Go.Proofs.Ytnhebddoclhnnaa.W

/- gnomon/gnomonref01.Shl -/
namespace Go.Proofs.Ytnhebddoclhnnaa.W
open Go Go.Proofs.Ytnhebddoclhnnaa.AI Go.Proofs.Ytnhebddoclhnnaa.M
namespace Shl
noncomputable def E : Env := { ({ base with C := callsOf [(18, Norm.orc), (23, MulSmall.orc)] }) with nt := 32, own := [14, 31], keep := fun k => (tlook [] k).getD [], cut := tlook [(3, [0, 1])] }
noncomputable def cod : Code := (Go.Proofs.Try.f14.body).getD .skip
theorem nok : namesOk E cod = true := by kernel_rfl
noncomputable def J3 (xs0 : List Int) (x1 : Int) : Option (List D) := ctO E Go.Proofs.Try.f14 cod 3 [(A.v (V.one (L.s (S.ints IntKind.u32 xs0))), none), (A.v (V.one (L.s (S.sc (Value.int IntKind.i64 x1)))), none)]
theorem start (a : List Int) (b : Int) : evalFn E Go.Proofs.Try.f14 cod [D.s (S.ints IntKind.u32 a), D.s (S.sc (Value.int IntKind.i64 b))] = bcase (decide (b ≤ (0 : Int))) (gif (Dig a ∧ a.length ≤ (4398046511104 : Nat)) (some [D.own (42 : Nat) IntKind.u32 (dg (val a))])) (bcase ((↑a.length : Int) == (0 : Int)) (gif (Dig a ∧ a.length ≤ (4398046511104 : Nat)) (some [D.own (42 : Nat) IntKind.u32 (dg (val a))])) (Shl.J3 a b)) := (evalFn_J rfl nok _).trans (by kernel_rfl)
theorem J3_eq (xs0 : List Int) (x1 : Int) : J3 xs0 x1 = if (0 : Int) ≤ IntKind.i64.wrap (x1.tdiv (32 : Int)) ∧ IntKind.i64.wrap (x1.tdiv (32 : Int)) ≤ IntKind.i64.wrap (IntKind.i64.wrap (IntKind.i64.wrap (x1.tdiv (32 : Int)) + (↑xs0.length : Int)) + (1 : Int)) ∧ IntKind.i64.wrap (IntKind.i64.wrap (IntKind.i64.wrap (x1.tdiv (32 : Int)) + (↑xs0.length : Int)) + (1 : Int)) ≤ (8796093022208 : Int) then if x1.tmod (32 : Int) < (0 : Int) then none else gif (Dig xs0 ∧ xs0.length ≤ (1099511627776 : Nat) ∧ ((0 : Int) ≤ IntKind.u32.wrap ((1 : Int) * (↑((2 : Nat) ^ min (x1.tmod (32 : Int)).toNat (32 : Nat)) : Int)) ∧ IntKind.u32.wrap ((1 : Int) * (↑((2 : Nat) ^ min (x1.tmod (32 : Int)).toNat (32 : Nat)) : Int)) < (4294967296 : Int)) ∧ (0 : Int) ≤ (0 : Int) ∧ (0 : Int) < (4294967296 : Int)) (if (0 : Nat) < (dg (val xs0 * (IntKind.u32.wrap ((1 : Int) * (↑((2 : Nat) ^ min (x1.tmod (32 : Int)).toNat (32 : Nat)) : Int))).toNat + (0 : Nat))).length ∧ (↑((List.replicate (IntKind.i64.wrap (x1.tdiv (32 : Int))).toNat (0 : Int)).length + (dg (val xs0 * (IntKind.u32.wrap ((1 : Int) * (↑((2 : Nat) ^ min (x1.tmod (32 : Int)).toNat (32 : Nat)) : Int))).toNat + (0 : Nat))).length) : Int) ≤ (8796093022208 : Int) then gif (Dig (List.replicate (IntKind.i64.wrap (x1.tdiv (32 : Int))).toNat (0 : Int) ++ dg (val xs0 * (IntKind.u32.wrap ((1 : Int) * (↑((2 : Nat) ^ min (x1.tmod (32 : Int)).toNat (32 : Nat)) : Int))).toNat + (0 : Nat))) ∧ (List.replicate (IntKind.i64.wrap (x1.tdiv (32 : Int))).toNat (0 : Int) ++ dg (val xs0 * (IntKind.u32.wrap ((1 : Int) * (↑((2 : Nat) ^ min (x1.tmod (32 : Int)).toNat (32 : Nat)) : Int))).toNat + (0 : Nat))).length ≤ (4398046511104 : Nat)) (some [D.own (42 : Nat) IntKind.u32 (dg (val (List.replicate (IntKind.i64.wrap (x1.tdiv (32 : Int))).toNat (0 : Int) ++ dg (val xs0 * (IntKind.u32.wrap ((1 : Int) * (↑((2 : Nat) ^ min (x1.tmod (32 : Int)).toNat (32 : Nat)) : Int))).toNat + (0 : Nat)))))]) else none) else none := (cutAt_J rfl nok 3 _).trans (by kernel_rfl)
-- stuck: 0
end Shl
namespace Shl
noncomputable def sp (a : List Int) (n : Int) : Prop × List D := (Nrm a ∧ a.length ≤ 1099511627776 ∧ n ≤ 1099511627776, [.own tU32 .u32 (dg (val a * 2 ^ n.toNat))])
theorem spec (a : List Int) (n : Int) (h : (sp a n).1) : evalFn E Try.f14 cod [(pI .u32).put a, (pN .i64).put n] = some (sp a n).2 := by
  obtain ⟨ha, h1, h2⟩ := h
  refine (start a n).trans ?_
  show _ = some [D.own tU32 .u32 (dg (val a * 2 ^ n.toNat))]
  by_cases hn : n ≤ 0
  · rw [bD_pos hn, gP ⟨ha.dig, by omega⟩, show n.toNat = 0 from by omega, Nat.pow_zero, Nat.mul_one]
  · rw [bD_neg hn]
    by_cases hz : a.length = 0
    · have hv := (len_zero ha).1 hz
      rw [bE_pos (by omega), gP ⟨ha.dig, by omega⟩, hv, Nat.zero_mul]
    · have hv : val a ≠ 0 := fun h => hz ((len_zero ha).2 h)
      rw [bE_neg (by omega), J3_eq, tdiv32 (by omega), tmod32 (by omega), wrap_i64 (n := n / 32) (by omega) (by omega), wrap_i64 (n := n / 32 + a.length) (by omega) (by omega), wrap_i64 (by omega) (by omega), if_pos ⟨by omega, by omega, by omega⟩, if_neg (by omega),
        shl_wrap (by omega) (by omega), Int.toNat_natCast]
      have e1 : (n % 32).toNat = n.toNat % 32 := by omega
      have e2 : (n / 32).toNat = n.toNat / 32 := by omega
      have hp : 2 ^ (n.toNat % 32) < 2 ^ 32 := Nat.pow_lt_pow_right (by omega) (by omega)
      have hp0 : 0 < 2 ^ (n.toNat % 32) := Nat.pow_pos (by omega)
      rw [e1, e2, Nat.add_zero]
      have hm : val a * 2 ^ (n.toNat % 32) ≠ 0 := Nat.mul_ne_zero hv (by omega)
      have hml : (dg (val a * 2 ^ (n.toNat % 32))).length ≤ a.length + 1 := by
        apply len_dg_le
        rw [Nat.pow_succ]
        exact Nat.mul_lt_mul_of_lt_of_lt (val_lt ha.dig) hp
      have hm0 : (dg (val a * 2 ^ (n.toNat % 32))).length ≠ 0 := fun h => hm (dg_len_zero.1 h)
      rw [gP ⟨ha.dig, h1, ⟨by omega, by generalize 2 ^ (n.toNat % 32) = p at *; omega⟩, by omega, by omega⟩, if_pos ⟨by omega, by rw [List.length_replicate]; omega⟩,
        gP ⟨dig_append.2 ⟨dig_replicate _, dig_dg _⟩, by rw [List.length_append, List.length_replicate]; omega⟩, val_append, val_replicate, List.length_replicate, val_dg, Nat.zero_add, pow_split n.toNat, Nat.mul_left_comm]

noncomputable def orc : Orc := orc2 (pI .u32) (pN .i64) sp
theorem fnok : FnOk Try.prog E 14 Try.f14 cod := fnOk ty_ok mixed (callsOk_of _ rfl (orcs_cons Norm.ok (orcs_cons MulSmall.ok orcs_nil)) (ext_ok)) Try.func14 rfl rfl rfl
theorem ok : OrcOk Try.prog base.glob 14 orc := fnok.ok2 rfl spec
end Shl
end Go.Proofs.Ytnhebddoclhnnaa.W

/- gnomon/gnomonref01.Pow2 -/
namespace Go.Proofs.Ytnhebddoclhnnaa.W
open Go Go.Proofs.Ytnhebddoclhnnaa.AI Go.Proofs.Ytnhebddoclhnnaa.M
namespace Pow2
noncomputable def E : Env := { ({ base with C := callsOf [(17, Word.orc), (14, Shl.orc)] }) with nt := 6, own := [5], keep := fun k => (tlook [] k).getD [], cut := tlook [] }
noncomputable def cod : Code := (Go.Proofs.Try.f31.body).getD .skip
theorem nok : namesOk E cod = true := by kernel_rfl
theorem start (a : Int) : evalFn E Go.Proofs.Try.f31 cod [D.s (S.sc (Value.int IntKind.i64 a))] = gif ((0 : Int) ≤ (1 : Int) ∧ (1 : Int) < (18446744073709551616 : Int)) (gif (Nrm (dg (1 : Nat)) ∧ (dg (1 : Nat)).length ≤ (1099511627776 : Nat) ∧ a ≤ (1099511627776 : Int)) (some [D.own (42 : Nat) IntKind.u32 (dg (val (dg (1 : Nat)) * (2 : Nat) ^ a.toNat))])) := (evalFn_J rfl nok _).trans (by kernel_rfl)
-- stuck: 0
end Pow2
namespace Pow2
noncomputable def sp (n : Int) : Prop × List D := (n ≤ 1099511627776, [.own tU32 .u32 (dg (2 ^ n.toNat))])
theorem spec (n : Int) (h : (sp n).1) : evalFn E Try.f31 cod [(pN .i64).put n] = some (sp n).2 := by
  refine (start n).trans ?_
  rw [gP ⟨by omega, by omega⟩, gP ⟨nrm_dg _, by simp [dg], h⟩, val_dg]
  simp [sp]

noncomputable def orc : Orc := orc1 (pN .i64) sp
theorem fnok : FnOk Try.prog E 31 Try.f31 cod := fnOk ty_ok mixed (callsOk_of _ rfl (orcs_cons Word.ok (orcs_cons Shl.ok orcs_nil)) (ext_ok)) Try.func31 rfl rfl rfl
theorem ok : OrcOk Try.prog base.glob 31 orc := fnok.ok1 rfl spec
end Pow2
end Go.Proofs.Ytnhebddoclhnnaa.W

/- gnomon/gnomonref01.DivSmall -/
namespace Go.Proofs.Ytnhebddoclhnnaa.W
open Go Go.Proofs.Ytnhebddoclhnnaa.AI Go.Proofs.Ytnhebddoclhnnaa.M
namespace DivSmall
noncomputable def E : Env := { ({ base with C := callsOf [(18, Norm.orc), (17, Word.orc)] }) with nt := 46, own := [11, 43], keep := fun k => (tlook [(6, [0, 1, 6, 7, 8])] k).getD [], cut := tlook [] }
noncomputable def cod : Code := (Go.Proofs.Try.f25.body).getD .skip
theorem nok : namesOk E cod = true := by kernel_rfl
noncomputable def L6 (xs0 : List Int) (x1 : Int) (m2 : Nat) (xs3 : List Int) (x4 : Int) (x5 : Int) : Option (List D) := lpO E Go.Proofs.Try.f25 cod 6 [(A.v (V.one (L.s (S.ints IntKind.u32 xs0))), none), (A.v (V.one (L.s (S.sc (Value.int IntKind.u32 x1)))), none), (A.v (V.one (L.buf (2 : Nat) m2)), some { e := (42 : Nat), cont := Cont.ints IntKind.u32 xs3 }), (A.v (V.one (L.s (S.sc (Value.int IntKind.u64 x4)))), none), (A.v (V.one (L.s (S.sc (Value.int IntKind.i64 x5)))), none)]
theorem start (a : List Int) (b : Int) : evalFn E Go.Proofs.Try.f25 cod [D.s (S.ints IntKind.u32 a), D.s (S.sc (Value.int IntKind.u32 b))] = bcase (b == (0 : Int)) (gif ((0 : Int) ≤ (0 : Int) ∧ (0 : Int) < (18446744073709551616 : Int)) (some [D.own (42 : Nat) IntKind.u32 (dg (0 : Nat)), D.s (S.sc (Value.int IntKind.u32 (0 : Int)))])) (if (0 : Int) ≤ (↑a.length : Int) ∧ (↑a.length : Int) ≤ (↑a.length : Int) ∧ (↑a.length : Int) ≤ (8796093022208 : Int) then DivSmall.L6 a b (↑a.length : Int).toNat (List.replicate (↑a.length : Int).toNat (0 : Int)) (0 : Int) (IntKind.i64.wrap ((↑a.length : Int) - (1 : Int))) else none) := (evalFn_J rfl nok _).trans (by kernel_rfl)
theorem L6_eq (xs0 : List Int) (x1 : Int) (m2 : Nat) (xs3 : List Int) (x4 : Int) (x5 : Int) : L6 xs0 x1 m2 xs3 x4 x5 = bcase (decide ((0 : Int) ≤ x5)) (if (0 : Int) ≤ x5 ∧ x5 < (↑xs0.length : Int) then if IntKind.u64.wrap x1 = (0 : Int) then none else if (0 : Int) ≤ x5 ∧ x5 < (↑m2 : Int) then if IntKind.u64.wrap x1 = (0 : Int) then none else DivSmall.L6 xs0 x1 m2 (xs3.set x5.toNat (IntKind.u32.wrap (IntKind.u64.wrap ((IntKind.u64.wrap (IntKind.u64.wrap (x4 * (4294967296 : Int)) + IntKind.u64.wrap (xs0.getD x5.toNat (0 : Int)))).tdiv (IntKind.u64.wrap x1))))) ((IntKind.u64.wrap (IntKind.u64.wrap (x4 * (4294967296 : Int)) + IntKind.u64.wrap (xs0.getD x5.toNat (0 : Int)))).tmod (IntKind.u64.wrap x1)) (IntKind.i64.wrap (x5 - (1 : Int))) else none else none) (gif (Dig xs3 ∧ xs3.length ≤ (4398046511104 : Nat)) (some [D.own (42 : Nat) IntKind.u32 (dg (val xs3)), D.s (S.sc (Value.int IntKind.u32 (IntKind.u32.wrap x4)))])) := (loopAt_J rfl nok 6 _).trans (by kernel_rfl)
-- stuck: 0
end DivSmall
namespace DivSmall
theorem L {a : List Int} {w : Int} (ha : Dig a) (hla : a.length ≤ 1099511627776) (hw : 0 < w) (hw' : w < 4294967296) : ∀ (n : Nat) (q : List Int) (l : Int), Dig q → q.length = a.length → 0 ≤ l → l < w → n ≤ a.length →
    L6 a w a.length q l ((n : Int) - 1) = some [D.own tU32 .u32 (dg ((l.toNat * 4294967296 ^ n + val (a.take n)) / w.toNat + 4294967296 ^ n * val (q.drop n))), D.s (.sc (.int .u32 (((l.toNat * 4294967296 ^ n + val (a.take n)) % w.toNat : Nat) : Int)))] := by
  intro n
  induction n with
  | zero =>
    intro q l hq hql h0 h1 hn
    rw [L6_eq, bD_neg (by omega), gP ⟨hq, by omega⟩, wrap_u32]
    simp only [Nat.pow_zero, Nat.mul_one, List.take_zero, val, Nat.add_zero, List.drop_zero, Nat.one_mul]
    rw [Nat.div_eq_of_lt (by omega), Nat.zero_add, Nat.mod_eq_of_lt (by omega)]
    have e0 : l % 4294967296 = ((l.toNat : Nat) : Int) := by omega
    rw [e0]
  | succ n ih =>
    intro q l hq hql h0 h1 hn
    have g1 := ha.get n
    have e : (((n + 1 : Nat) : Int) - 1) = (n : Int) := by omega
    have e' : ((n : Int)).toNat = n := Int.toNat_natCast n
    have hu : wrap_u64 (n := w) (by omega) (by omega) = wrap_u64 (n := w) (by omega) (by omega) := rfl
    rw [e, L6_eq, bD_pos (by omega), if_pos (by omega), e', wrap_u64 (n := w) (by omega) (by omega), if_neg (by omega), if_pos (by omega), if_neg (by omega), wrap_u64 (n := l * 4294967296) (by omega) (by omega),
      wrap_u64 (n := a.getD n 0) (by omega) (by omega), wrap_u64 (n := l * 4294967296 + a.getD n 0) (by omega) (by omega), wrap_i64 (by omega) (by omega)]
    have hs0 : 0 ≤ l * 4294967296 + a.getD n 0 := by omega
    rw [Int.tdiv_eq_ediv_of_nonneg hs0, Int.tmod_eq_emod_of_nonneg hs0]
    have hqb : (l * 4294967296 + a.getD n 0) / w < 4294967296 := Int.ediv_lt_of_lt_mul hw (by
      have : (l + 1) * 4294967296 ≤ w * 4294967296 := Int.mul_le_mul_of_nonneg_right (by omega) (by omega)
      omega)
    have hq0 : 0 ≤ (l * 4294967296 + a.getD n 0) / w := Int.ediv_nonneg hs0 (by omega)
    have hm0 := Int.emod_nonneg (l * 4294967296 + a.getD n 0) (show w ≠ 0 by omega)
    have hm1 := Int.emod_lt_of_pos (l * 4294967296 + a.getD n 0) hw
    rw [wrap_u64 hq0 (by omega), wrap_u32, Int.emod_eq_of_lt hq0 hqb, ih _ _ (dig_set hq ⟨hq0, hqb⟩) (by simpa using hql) hm0 hm1 (by omega), val_drop_set (by omega), val_take_one]
    have hw2 : 0 < w.toNat := by omega
    have d1 : ((l * 4294967296 + a.getD n 0) / w).toNat = (l.toNat * 4294967296 + (a.getD n 0).toNat) / w.toNat := by
      rw [toNat_ediv' hs0 (by omega)]; congr 1; omega
    have d2 : ((l * 4294967296 + a.getD n 0) % w).toNat = (l.toNat * 4294967296 + (a.getD n 0).toNat) % w.toNat := by
      rw [toNat_emod' hs0 (by omega)]; congr 1; omega
    rw [d1, d2, Nat.pow_succ]
    generalize (a.getD n 0).toNat = x at *
    generalize l.toNat = l at *
    generalize val (a.take n) = v at *
    generalize 4294967296 ^ n = B at *
    have e3 : l * (B * 4294967296) + (v + B * x) = (l * 4294967296 + x) * B + v := by
      rw [Nat.add_mul, Nat.mul_comm B 4294967296, ← Nat.mul_assoc, Nat.mul_comm B x]; omega
    rw [e3, div_step hw2, mod_step (l := l) (B := 4294967296) (d := x), Nat.mul_add, Nat.mul_assoc, Nat.add_assoc]

noncomputable def sp (a : List Int) (w : Int) : Prop × List D := (Dig a ∧ a.length ≤ 1099511627776 ∧ (0 < w ∧ w < 4294967296), [.own tU32 .u32 (dg (val a / w.toNat)), .s (.sc (.int .u32 ((val a % w.toNat : Nat) : Int)))])
theorem spec (a : List Int) (w : Int) (h : (sp a w).1) : evalFn E Try.f25 cod [(pI .u32).put a, (pN .u32).put w] = some (sp a w).2 := by
  obtain ⟨ha, h1, hw⟩ := h
  refine (start a w).trans ?_
  rw [bE_neg (by omega), if_pos ⟨by omega, by omega, by omega⟩, wrap_i64 (by omega) (by omega), Int.toNat_natCast, L ha h1 hw.1 hw.2 a.length _ 0 (dig_replicate _) (by simp) (by omega) (by omega) (Nat.le_refl _)]
  simp [sp, val]

noncomputable def orc : Orc := orc2 (pI .u32) (pN .u32) sp
theorem fnok : FnOk Try.prog E 25 Try.f25 cod := fnOk ty_ok mixed (callsOk_of _ rfl (orcs_cons Norm.ok (orcs_cons Word.ok orcs_nil)) (ext_ok)) Try.func25 rfl rfl rfl
theorem ok : OrcOk Try.prog base.glob 25 orc := fnok.ok2 rfl spec
end DivSmall
end Go.Proofs.Ytnhebddoclhnnaa.W

/- gnomon/gnomonref01.Add -/
namespace Go.Proofs.Ytnhebddoclhnnaa.W
open Go Go.Proofs.Ytnhebddoclhnnaa.AI Go.Proofs.Ytnhebddoclhnnaa.M
namespace Add
noncomputable def E : Env := { ({ base with C := callsOf [(18, Norm.orc)] }) with nt := 63, own := [62], keep := fun k => (tlook [(4, [0, 1, 5, 6, 7])] k).getD [], cut := tlook [(6, [0, 1, 5, 6, 7]), (8, [0, 1, 5, 6, 7]), (10, [0, 1, 5, 6, 7])] }
noncomputable def cod : Code := (Go.Proofs.Try.f22.body).getD .skip
theorem nok : namesOk E cod = true := by kernel_rfl
noncomputable def L4 (xs0 : List Int) (xs1 : List Int) (m2 : Nat) (xs3 : List Int) (x4 : Int) (x5 : Int) : Option (List D) := lpO E Go.Proofs.Try.f22 cod 4 [(A.v (V.one (L.s (S.ints IntKind.u32 xs0))), none), (A.v (V.one (L.s (S.ints IntKind.u32 xs1))), none), (A.v (V.one (L.buf (2 : Nat) m2)), some { e := (42 : Nat), cont := Cont.ints IntKind.u32 xs3 }), (A.v (V.one (L.s (S.sc (Value.int IntKind.u64 x4)))), none), (A.v (V.one (L.s (S.sc (Value.int IntKind.i64 x5)))), none)]
noncomputable def J6 (xs0 : List Int) (xs1 : List Int) (m2 : Nat) (xs3 : List Int) (x4 : Int) (x5 : Int) : Option (List D) := ctO E Go.Proofs.Try.f22 cod 6 [(A.v (V.one (L.s (S.ints IntKind.u32 xs0))), none), (A.v (V.one (L.s (S.ints IntKind.u32 xs1))), none), (A.v (V.one (L.buf (2 : Nat) m2)), some { e := (42 : Nat), cont := Cont.ints IntKind.u32 xs3 }), (A.v (V.one (L.s (S.sc (Value.int IntKind.u64 x4)))), none), (A.v (V.one (L.s (S.sc (Value.int IntKind.i64 x5)))), none)]
noncomputable def J8 (xs0 : List Int) (xs1 : List Int) (m2 : Nat) (xs3 : List Int) (x4 : Int) (x5 : Int) : Option (List D) := ctO E Go.Proofs.Try.f22 cod 8 [(A.v (V.one (L.s (S.ints IntKind.u32 xs0))), none), (A.v (V.one (L.s (S.ints IntKind.u32 xs1))), none), (A.v (V.one (L.buf (2 : Nat) m2)), some { e := (42 : Nat), cont := Cont.ints IntKind.u32 xs3 }), (A.v (V.one (L.s (S.sc (Value.int IntKind.u64 x4)))), none), (A.v (V.one (L.s (S.sc (Value.int IntKind.i64 x5)))), none)]
noncomputable def J10 (xs0 : List Int) (xs1 : List Int) (m2 : Nat) (xs3 : List Int) (x4 : Int) (x5 : Int) : Option (List D) := ctO E Go.Proofs.Try.f22 cod 10 [(A.v (V.one (L.s (S.ints IntKind.u32 xs0))), none), (A.v (V.one (L.s (S.ints IntKind.u32 xs1))), none), (A.v (V.one (L.buf (2 : Nat) m2)), some { e := (42 : Nat), cont := Cont.ints IntKind.u32 xs3 }), (A.v (V.one (L.s (S.sc (Value.int IntKind.u64 x4)))), none), (A.v (V.one (L.s (S.sc (Value.int IntKind.i64 x5)))), none)]
theorem start (a : List Int) (b : List Int) : evalFn E Go.Proofs.Try.f22 cod [D.s (S.ints IntKind.u32 a), D.s (S.ints IntKind.u32 b)] = if (0 : Int) ≤ (0 : Int) ∧ (0 : Int) ≤ IntKind.i64.wrap ((if (↑b.length : Int) > (↑a.length : Int) then (↑b.length : Int) else (↑a.length : Int)) + (1 : Int)) ∧ IntKind.i64.wrap ((if (↑b.length : Int) > (↑a.length : Int) then (↑b.length : Int) else (↑a.length : Int)) + (1 : Int)) ≤ (8796093022208 : Int) then Add.L4 a b (0 : Nat) (List.replicate (0 : Nat) (0 : Int)) (0 : Int) (0 : Int) else none := (evalFn_J rfl nok _).trans (by kernel_rfl)
theorem L4_eq (xs0 : List Int) (xs1 : List Int) (m2 : Nat) (xs3 : List Int) (x4 : Int) (x5 : Int) : L4 xs0 xs1 m2 xs3 x4 x5 = bcase (decide (x5 < (↑xs0.length : Int))) (Add.J6 xs0 xs1 m2 xs3 x4 x5) (bcase (decide (x5 < (↑xs1.length : Int))) (Add.J6 xs0 xs1 m2 xs3 x4 x5) (bcase (decide ((0 : Int) < x4)) (Add.J6 xs0 xs1 m2 xs3 x4 x5) (gif (Dig xs3 ∧ xs3.length ≤ (4398046511104 : Nat)) (some [D.own (42 : Nat) IntKind.u32 (dg (val xs3))])))) := (loopAt_J rfl nok 4 _).trans (by kernel_rfl)
theorem J6_eq (xs0 : List Int) (xs1 : List Int) (m2 : Nat) (xs3 : List Int) (x4 : Int) (x5 : Int) : J6 xs0 xs1 m2 xs3 x4 x5 = bcase (decide (x5 < (↑xs0.length : Int))) (if (0 : Int) ≤ x5 ∧ x5 < (↑xs0.length : Int) then Add.J8 xs0 xs1 m2 xs3 (IntKind.u64.wrap (x4 + IntKind.u64.wrap (xs0.getD x5.toNat (0 : Int)))) x5 else none) (Add.J8 xs0 xs1 m2 xs3 x4 x5) := (cutAt_J rfl nok 6 _).trans (by kernel_rfl)
theorem J8_eq (xs0 : List Int) (xs1 : List Int) (m2 : Nat) (xs3 : List Int) (x4 : Int) (x5 : Int) : J8 xs0 xs1 m2 xs3 x4 x5 = bcase (decide (x5 < (↑xs1.length : Int))) (if (0 : Int) ≤ x5 ∧ x5 < (↑xs1.length : Int) then Add.J10 xs0 xs1 m2 xs3 (IntKind.u64.wrap (x4 + IntKind.u64.wrap (xs1.getD x5.toNat (0 : Int)))) x5 else none) (Add.J10 xs0 xs1 m2 xs3 x4 x5) := (cutAt_J rfl nok 8 _).trans (by kernel_rfl)
theorem J10_eq (xs0 : List Int) (xs1 : List Int) (m2 : Nat) (xs3 : List Int) (x4 : Int) (x5 : Int) : J10 xs0 xs1 m2 xs3 x4 x5 = if (0 : Nat) < [IntKind.u32.wrap (bitsI BinOp.and IntKind.u64 x4 (4294967295 : Int))].length ∧ (↑(xs3.length + [IntKind.u32.wrap (bitsI BinOp.and IntKind.u64 x4 (4294967295 : Int))].length) : Int) ≤ (8796093022208 : Int) then Add.L4 xs0 xs1 (xs3.length + [IntKind.u32.wrap (bitsI BinOp.and IntKind.u64 x4 (4294967295 : Int))].length) (xs3 ++ [IntKind.u32.wrap (bitsI BinOp.and IntKind.u64 x4 (4294967295 : Int))]) (x4 / (4294967296 : Int)) (IntKind.i64.wrap (x5 + (1 : Int))) else none := (cutAt_J rfl nok 10 _).trans (by kernel_rfl)
-- stuck: 0
end Add
namespace Add
theorem step {a b xs : List Int} {c : Int} {i : Nat} (ha : Dig a) (hb : Dig b) (hxl : xs.length = i) (hi : i < 4398046511104) (h0 : 0 ≤ c) (h1 : c ≤ 1) (hc : i < a.length ∨ i < b.length ∨ 0 < c) :
    L4 a b i xs c i = L4 a b (i + 1) (xs ++ [(c + a.getD i 0 + b.getD i 0) % 4294967296]) ((c + a.getD i 0 + b.getD i 0) / 4294967296) ((i + 1 : Nat) : Int) := by
  have g1 := ha.get i
  have g2 := hb.get i
  have e' : ((i : Int)).toNat = i := Int.toNat_natCast i
  have hJ10 : ∀ s : Int, 0 ≤ s → s < 18446744073709551616 → J10 a b i xs s i = L4 a b (i + 1) (xs ++ [s % 4294967296]) (s / 4294967296) ((i + 1 : Nat) : Int) := by
    intro s hs hs'
    rw [J10_eq, and_mask32 hs hs', if_pos ⟨by simp, by simp; omega⟩, wrap_u32, Int.emod_emod_of_dvd _ (Int.dvd_refl _), wrap_i64 (by omega) (by omega), hxl]
    rfl
  have hJ8 : ∀ s : Int, 0 ≤ s → s < 8589934592 → J8 a b i xs s i = J10 a b i xs (s + b.getD i 0) i := by
    intro s hs hs'
    rw [J8_eq]
    by_cases h : i < b.length
    · rw [bD_pos (by omega), if_pos (by omega), e', wrap_u64 (n := b.getD i 0) (by omega) (by omega), wrap_u64 (by omega) (by omega)]
    · rw [bD_neg (by omega), getD_none (a := b) (by omega), Int.add_zero]
  have hJ6 : J6 a b i xs c i = L4 a b (i + 1) (xs ++ [(c + a.getD i 0 + b.getD i 0) % 4294967296]) ((c + a.getD i 0 + b.getD i 0) / 4294967296) ((i + 1 : Nat) : Int) := by
    rw [J6_eq]
    by_cases h : i < a.length
    · rw [bD_pos (by omega), if_pos (by omega), e', wrap_u64 (n := a.getD i 0) (by omega) (by omega), wrap_u64 (by omega) (by omega), hJ8 _ (by omega) (by omega), hJ10 _ (by omega) (by omega)]
    · rw [bD_neg (by omega), getD_none (a := a) (by omega), Int.add_zero, hJ8 _ (by omega) (by omega), hJ10 _ (by omega) (by omega)]
  rw [L4_eq]
  by_cases h : i < a.length
  · rw [bD_pos (by omega), hJ6]
  · rw [bD_neg (by omega)]
    by_cases h' : i < b.length
    · rw [bD_pos (by omega), hJ6]
    · rw [bD_neg (by omega), bD_pos (by omega), hJ6]

theorem L {a b : List Int} (ha : Dig a) (hb : Dig b) (hla : a.length ≤ 1099511627776) (hlb : b.length ≤ 1099511627776) : ∀ (d i : Nat) (xs : List Int) (c : Int), Dig xs → xs.length = i → 0 ≤ c → c ≤ 1 →
    i + d = max a.length b.length + 1 → (d = 0 → c = 0) → val xs + 4294967296 ^ i * c.toNat = val (a.take i) + val (b.take i) →
    L4 a b i xs c i = some [D.own tU32 .u32 (dg (val a + val b))] := by
  intro d
  induction d with
  | zero =>
    intro i xs c hx hxl h0 h1 hd hc hv
    have hc := hc rfl
    subst hc
    rw [L4_eq, bD_neg (by omega), bD_neg (by omega), bD_neg (by omega), gP ⟨hx, by omega⟩]
    rw [val_take_ge (by omega), val_take_ge (by omega)] at hv
    simp at hv
    rw [hv]
  | succ d ih =>
    intro i xs c hx hxl h0 h1 hd hc hv
    by_cases hgo : i < a.length ∨ i < b.length ∨ 0 < c
    · have g1 := ha.get i
      have g2 := hb.get i
      rw [step ha hb hxl (by omega) h0 h1 hgo]
      refine ih (i + 1) _ _ (dig_push hx (by omega)) (by simp [hxl]) (by omega) (by omega) (by omega) (fun hd0 => ?_) ?_
      · have : ¬ i < a.length := by omega
        have : ¬ i < b.length := by omega
        rw [getD_none (a := a) (by omega), getD_none (a := b) (by omega)]
        omega
      · rw [val_push, val_take_one, val_take_one, hxl, Nat.pow_succ, Nat.mul_assoc]
        generalize a.getD i 0 = x at *
        generalize b.getD i 0 = y at *
        generalize 4294967296 ^ i = B at *
        have e : 4294967296 * ((c + x + y) / 4294967296).toNat + ((c + x + y) % 4294967296).toNat = c.toNat + x.toNat + y.toNat := by omega
        have e2 : B * (4294967296 * ((c + x + y) / 4294967296).toNat) + B * ((c + x + y) % 4294967296).toNat = B * c.toNat + B * x.toNat + B * y.toNat := by
          rw [← Nat.mul_add, e, Nat.mul_add, Nat.mul_add]
        omega
    · have : c = 0 := by omega
      subst this
      rw [L4_eq, bD_neg (by omega), bD_neg (by omega), bD_neg (by omega), gP ⟨hx, by omega⟩]
      rw [val_take_ge (by omega), val_take_ge (by omega)] at hv
      simp at hv
      rw [hv]

noncomputable def sp (a b : List Int) : Prop × List D := (Dig a ∧ Dig b ∧ a.length ≤ 1099511627776 ∧ b.length ≤ 1099511627776, [.own tU32 .u32 (dg (val a + val b))])
theorem spec (a b : List Int) (h : (sp a b).1) : evalFn E Try.f22 cod [(pI .u32).put a, (pI .u32).put b] = some (sp a b).2 := by
  obtain ⟨ha, hb, h1, h2⟩ := h
  refine (start a b).trans ?_
  rw [if_pos]
  · exact L ha hb h1 h2 (max a.length b.length + 1) 0 [] 0 dig_nil rfl (by omega) (by omega) (by omega) (fun _ => rfl) (by simp [val])
  · refine ⟨by omega, ?_, ?_⟩ <;> rw [wrap_i64] <;> split <;> omega

noncomputable def orc : Orc := orc2 (pI .u32) (pI .u32) sp
theorem fnok : FnOk Try.prog E 22 Try.f22 cod := fnOk ty_ok mixed (callsOk_of _ rfl (orcs_cons Norm.ok orcs_nil) (ext_ok)) Try.func22 rfl rfl rfl
theorem ok : OrcOk Try.prog base.glob 22 orc := fnok.ok2 rfl spec
end Add
end Go.Proofs.Ytnhebddoclhnnaa.W

/- gnomon/gnomonref01.Cmp -/
namespace Go.Proofs.Ytnhebddoclhnnaa.W
open Go Go.Proofs.Ytnhebddoclhnnaa.AI Go.Proofs.Ytnhebddoclhnnaa.M
namespace Cmp
noncomputable def E : Env := { (base) with nt := 41, own := [], keep := fun k => (tlook [(6, [0, 1, 5])] k).getD [], cut := tlook [] }
noncomputable def cod : Code := (Go.Proofs.Try.f16.body).getD .skip
theorem nok : namesOk E cod = true := by kernel_rfl
noncomputable def L6 (xs0 : List Int) (xs1 : List Int) (x2 : Int) : Option (List D) := lpO E Go.Proofs.Try.f16 cod 6 [(A.v (V.one (L.s (S.ints IntKind.u32 xs0))), none), (A.v (V.one (L.s (S.ints IntKind.u32 xs1))), none), (A.v (V.one (L.s (S.sc (Value.int IntKind.i64 x2)))), none)]
theorem start (a : List Int) (b : List Int) : evalFn E Go.Proofs.Try.f16 cod [D.s (S.ints IntKind.u32 a), D.s (S.ints IntKind.u32 b)] = bcase ((↑a.length : Int) != (↑b.length : Int)) (bcase (decide ((↑a.length : Int) < (↑b.length : Int))) (some [D.s (S.sc (Value.int IntKind.i64 (-1 : Int)))]) (some [D.s (S.sc (Value.int IntKind.i64 (1 : Int)))])) (Cmp.L6 a b (IntKind.i64.wrap ((↑a.length : Int) - (1 : Int)))) := (evalFn_J rfl nok _).trans (by kernel_rfl)
theorem L6_eq (xs0 : List Int) (xs1 : List Int) (x2 : Int) : L6 xs0 xs1 x2 = bcase (decide ((0 : Int) ≤ x2)) (if (0 : Int) ≤ x2 ∧ x2 < (↑xs0.length : Int) then if (0 : Int) ≤ x2 ∧ x2 < (↑xs1.length : Int) then bcase (decide (xs0.getD x2.toNat (0 : Int) < xs1.getD x2.toNat (0 : Int))) (some [D.s (S.sc (Value.int IntKind.i64 (-1 : Int)))]) (if (0 : Int) ≤ x2 ∧ x2 < (↑xs0.length : Int) then if (0 : Int) ≤ x2 ∧ x2 < (↑xs1.length : Int) then bcase (decide (xs1.getD x2.toNat (0 : Int) < xs0.getD x2.toNat (0 : Int))) (some [D.s (S.sc (Value.int IntKind.i64 (1 : Int)))]) (Cmp.L6 xs0 xs1 (IntKind.i64.wrap (x2 - (1 : Int)))) else none else none) else none else none) (some [D.s (S.sc (Value.int IntKind.i64 (0 : Int)))]) := (loopAt_J rfl nok 6 _).trans (by kernel_rfl)
-- stuck: 0
end Cmp
namespace Cmp
theorem L {a b : List Int} (ha : Dig a) (hb : Dig b) (hl : a.length = b.length) (hm : a.length ≤ 4398046511104) : ∀ n : Nat, n ≤ a.length → L6 a b ((n : Int) - 1) = some [D.s (.sc (.int .i64 (cmpN (val (a.take n)) (val (b.take n)))))]
  | 0, _ => by
    rw [L6_eq, bD_neg (by omega)]
    simp [cmpN, val]
  | n + 1, h => by
    have e : (((n + 1 : Nat) : Int) - 1) = (n : Int) := by omega
    have e' : ((n : Int)).toNat = n := Int.toNat_natCast n
    rw [e, L6_eq, bD_pos (by omega), if_pos (by omega), if_pos (by omega), if_pos (by omega), if_pos (by omega), e', wrap_i64 (by omega) (by omega), L ha hb hl hm n (by omega)]
    have h1 := ha.get n
    have h2 := hb.get n
    have l1 := val_take_lt ha n
    have l2 := val_take_lt hb n
    rw [val_take_one, val_take_one]
    generalize a.getD n 0 = x at *
    generalize b.getD n 0 = y at *
    generalize val (a.take n) = u at *
    generalize val (b.take n) = v at *
    generalize 4294967296 ^ n = B at *
    by_cases hxy : x < y
    · rw [bD_pos hxy]
      have : B * x.toNat + B ≤ B * y.toNat := by
        have : B * (x.toNat + 1) ≤ B * y.toNat := Nat.mul_le_mul_left _ (by omega)
        rw [Nat.mul_add] at this; omega
      unfold cmpN
      rw [if_pos (by omega)]
    · rw [bD_neg hxy]
      by_cases hyx : y < x
      · rw [bD_pos hyx]
        have : B * y.toNat + B ≤ B * x.toNat := by
          have : B * (y.toNat + 1) ≤ B * x.toNat := Nat.mul_le_mul_left _ (by omega)
          rw [Nat.mul_add] at this; omega
        unfold cmpN
        rw [if_neg (by omega), if_pos (by omega)]
      · rw [bD_neg hyx]
        have : x = y := by omega
        subst this
        rw [cmpN_add]

noncomputable def sp (a b : List Int) : Prop × List D := (Nrm a ∧ Nrm b ∧ a.length ≤ 4398046511104 ∧ b.length ≤ 4398046511104, [.s (.sc (.int .i64 (cmpN (val a) (val b))))])
theorem spec (a b : List Int) (h : (sp a b).1) : evalFn E Try.f16 cod [(pI .u32).put a, (pI .u32).put b] = some (sp a b).2 := by
  obtain ⟨ha, hb, h1, h2⟩ := h
  refine (start a b).trans ?_
  show _ = some [D.s (.sc (.int .i64 (cmpN (val a) (val b))))]
  by_cases hl : a.length = b.length
  · rw [bN_neg (by omega), wrap_i64 (by omega) (by omega), L ha.dig hb.dig hl h1 a.length (Nat.le_refl _), val_take_ge (Nat.le_refl _), val_take_ge (by omega)]
  · rw [bN_pos (by omega)]
    by_cases hlt : a.length < b.length
    · have := nrm_len_lt ha.dig hb hlt
      rw [bD_pos (by omega)]
      unfold cmpN
      rw [if_pos this]
    · have := nrm_len_lt hb.dig ha (by omega)
      rw [bD_neg (by omega)]
      unfold cmpN
      rw [if_neg (by omega), if_pos this]

noncomputable def orc : Orc := orc2 (pI .u32) (pI .u32) sp
theorem fnok : FnOk Try.prog E 16 Try.f16 cod := fnOk ty_ok mixed (callsOk_of _ rfl orcs_nil (ext_ok)) Try.func16 rfl rfl rfl
theorem ok : OrcOk Try.prog base.glob 16 orc := fnok.ok2 rfl spec
end Cmp
end Go.Proofs.Ytnhebddoclhnnaa.W

/- gnomon/gnomonref01.Sub -/
namespace Go.Proofs.Ytnhebddoclhnnaa.W
open Go Go.Proofs.Ytnhebddoclhnnaa.AI Go.Proofs.Ytnhebddoclhnnaa.M
namespace Sub
noncomputable def E : Env := { ({ base with C := callsOf [(18, Norm.orc), (17, Word.orc), (16, Cmp.orc)] }) with nt := 55, own := [14, 54], keep := fun k => (tlook [(6, [0, 1, 5, 6, 7])] k).getD [], cut := tlook [(11, [0, 1, 5, 7, 8])] }
noncomputable def cod : Code := (Go.Proofs.Try.f9.body).getD .skip
theorem nok : namesOk E cod = true := by kernel_rfl
noncomputable def L6 (xs0 : List Int) (xs1 : List Int) (m2 : Nat) (xs3 : List Int) (x4 : Int) (x5 : Int) : Option (List D) := lpO E Go.Proofs.Try.f9 cod 6 [(A.v (V.one (L.s (S.ints IntKind.u32 xs0))), none), (A.v (V.one (L.s (S.ints IntKind.u32 xs1))), none), (A.v (V.one (L.buf (2 : Nat) m2)), some { e := (42 : Nat), cont := Cont.ints IntKind.u32 xs3 }), (A.v (V.one (L.s (S.sc (Value.int IntKind.u64 x4)))), none), (A.v (V.one (L.s (S.sc (Value.int IntKind.i64 x5)))), none)]
noncomputable def J11 (xs0 : List Int) (xs1 : List Int) (m2 : Nat) (xs3 : List Int) (x4 : Int) (x5 : Int) : Option (List D) := ctO E Go.Proofs.Try.f9 cod 11 [(A.v (V.one (L.s (S.ints IntKind.u32 xs0))), none), (A.v (V.one (L.s (S.ints IntKind.u32 xs1))), none), (A.v (V.one (L.buf (2 : Nat) m2)), some { e := (42 : Nat), cont := Cont.ints IntKind.u32 xs3 }), (A.v (V.one (L.s (S.sc (Value.int IntKind.i64 x4)))), none), (A.v (V.one (L.s (S.sc (Value.int IntKind.u64 x5)))), none)]
theorem start (a : List Int) (b : List Int) : evalFn E Go.Proofs.Try.f9 cod [D.s (S.ints IntKind.u32 a), D.s (S.ints IntKind.u32 b)] = gif (Nrm a ∧ Nrm b ∧ a.length ≤ (4398046511104 : Nat) ∧ b.length ≤ (4398046511104 : Nat)) (bcase (decide (cmpN (val a) (val b) ≤ (0 : Int))) (gif ((0 : Int) ≤ (0 : Int) ∧ (0 : Int) < (18446744073709551616 : Int)) (some [D.own (42 : Nat) IntKind.u32 (dg (0 : Nat))])) (if (0 : Int) ≤ (0 : Int) ∧ (0 : Int) ≤ (↑a.length : Int) ∧ (↑a.length : Int) ≤ (8796093022208 : Int) then Sub.L6 a b (0 : Nat) (List.replicate (0 : Nat) (0 : Int)) (0 : Int) (0 : Int) else none)) := (evalFn_J rfl nok _).trans (by kernel_rfl)
theorem L6_eq (xs0 : List Int) (xs1 : List Int) (m2 : Nat) (xs3 : List Int) (x4 : Int) (x5 : Int) : L6 xs0 xs1 m2 xs3 x4 x5 = bcase (decide (x5 < (↑xs0.length : Int))) (bcase (decide (x5 < (↑xs1.length : Int))) (if (0 : Int) ≤ x5 ∧ x5 < (↑xs1.length : Int) then Sub.J11 xs0 xs1 m2 xs3 x5 (IntKind.u64.wrap (x4 + IntKind.u64.wrap (xs1.getD x5.toNat (0 : Int)))) else none) (Sub.J11 xs0 xs1 m2 xs3 x5 x4)) (gif (Dig xs3 ∧ xs3.length ≤ (4398046511104 : Nat)) (some [D.own (42 : Nat) IntKind.u32 (dg (val xs3))])) := (loopAt_J rfl nok 6 _).trans (by kernel_rfl)
theorem J11_eq (xs0 : List Int) (xs1 : List Int) (m2 : Nat) (xs3 : List Int) (x4 : Int) (x5 : Int) : J11 xs0 xs1 m2 xs3 x4 x5 = if (0 : Int) ≤ x4 ∧ x4 < (↑xs0.length : Int) then bcase (decide (IntKind.u64.wrap (xs0.getD x4.toNat (0 : Int)) < x5)) (if (0 : Nat) < [IntKind.u32.wrap (IntKind.u64.wrap (IntKind.u64.wrap (IntKind.u64.wrap (xs0.getD x4.toNat (0 : Int)) + (4294967296 : Int)) - x5))].length ∧ (↑(xs3.length + [IntKind.u32.wrap (IntKind.u64.wrap (IntKind.u64.wrap (IntKind.u64.wrap (xs0.getD x4.toNat (0 : Int)) + (4294967296 : Int)) - x5))].length) : Int) ≤ (8796093022208 : Int) then Sub.L6 xs0 xs1 (xs3.length + [IntKind.u32.wrap (IntKind.u64.wrap (IntKind.u64.wrap (IntKind.u64.wrap (xs0.getD x4.toNat (0 : Int)) + (4294967296 : Int)) - x5))].length) (xs3 ++ [IntKind.u32.wrap (IntKind.u64.wrap (IntKind.u64.wrap (IntKind.u64.wrap (xs0.getD x4.toNat (0 : Int)) + (4294967296 : Int)) - x5))]) (1 : Int) (IntKind.i64.wrap (x4 + (1 : Int))) else none) (if (0 : Nat) < [IntKind.u32.wrap (IntKind.u64.wrap (IntKind.u64.wrap (xs0.getD x4.toNat (0 : Int)) - x5))].length ∧ (↑(xs3.length + [IntKind.u32.wrap (IntKind.u64.wrap (IntKind.u64.wrap (xs0.getD x4.toNat (0 : Int)) - x5))].length) : Int) ≤ (8796093022208 : Int) then Sub.L6 xs0 xs1 (xs3.length + [IntKind.u32.wrap (IntKind.u64.wrap (IntKind.u64.wrap (xs0.getD x4.toNat (0 : Int)) - x5))].length) (xs3 ++ [IntKind.u32.wrap (IntKind.u64.wrap (IntKind.u64.wrap (xs0.getD x4.toNat (0 : Int)) - x5))]) (0 : Int) (IntKind.i64.wrap (x4 + (1 : Int))) else none) else none := (cutAt_J rfl nok 11 _).trans (by kernel_rfl)
-- stuck: 0
end Sub
namespace Sub
theorem step {a b xs : List Int} {o : Int} {i : Nat} (ha : Dig a) (hb : Dig b) (hxl : xs.length = i) (hi : i < a.length) (hla : a.length ≤ 4398046511104) (h0 : 0 ≤ o) (h1 : o ≤ 1) :
    L6 a b i xs o i = L6 a b (i + 1) (xs ++ [(a.getD i 0 - (o + b.getD i 0)) % 4294967296]) (if a.getD i 0 < o + b.getD i 0 then 1 else 0) ((i + 1 : Nat) : Int) := by
  have g1 := ha.get i
  have g2 := hb.get i
  have e' : ((i : Int)).toNat = i := Int.toNat_natCast i
  have hJ : ∀ t : Int, 0 ≤ t → t ≤ 4294967296 → J11 a b i xs i t = L6 a b (i + 1) (xs ++ [(a.getD i 0 - t) % 4294967296]) (if a.getD i 0 < t then 1 else 0) ((i + 1 : Nat) : Int) := by
    intro t ht ht'
    rw [J11_eq, if_pos (by omega), e', wrap_u64 (n := a.getD i 0) (by omega) (by omega), wrap_u64 (n := a.getD i 0 + 4294967296) (by omega) (by omega)]
    by_cases h : a.getD i 0 < t
    · rw [bD_pos h, if_pos ⟨by simp, by simp; omega⟩, if_pos h, wrap_u64 (n := a.getD i 0 + 4294967296 - t) (by omega) (by omega), wrap_u32, wrap_i64 (by omega) (by omega), hxl, show (a.getD i 0 + 4294967296 - t) % 4294967296 = (a.getD i 0 - t) % 4294967296 from by omega]
      rfl
    · rw [bD_neg h, if_pos ⟨by simp, by simp; omega⟩, if_neg h, wrap_u64 (n := a.getD i 0 - t) (by omega) (by omega), wrap_u32, wrap_i64 (by omega) (by omega), hxl]
      rfl
  rw [L6_eq, bD_pos (by omega)]
  by_cases h : i < b.length
  · rw [bD_pos (by omega), if_pos (by omega), e', wrap_u64 (n := b.getD i 0) (by omega) (by omega), wrap_u64 (by omega) (by omega), hJ _ (by omega) (by omega)]
  · rw [bD_neg (by omega), getD_none (a := b) (by omega), Int.add_zero, hJ _ (by omega) (by omega)]

theorem L {a b : List Int} (ha : Dig a) (hb : Dig b) (hla : a.length ≤ 4398046511104) (hbl : b.length ≤ a.length) (hba : val b ≤ val a) : ∀ (d i : Nat) (xs : List Int) (o : Int), Dig xs → xs.length = i → 0 ≤ o → o ≤ 1 →
    i + d = a.length → val xs + val (b.take i) = val (a.take i) + 4294967296 ^ i * o.toNat →
    L6 a b i xs o i = some [D.own tU32 .u32 (dg (val a - val b))] := by
  intro d
  induction d with
  | zero =>
    intro i xs o hx hxl h0 h1 hd hv
    rw [L6_eq, bD_neg (by omega), gP ⟨hx, by omega⟩]
    rw [val_take_ge (by omega), val_take_ge (by omega)] at hv
    have hxv := val_lt hx
    rw [hxl] at hxv
    have : o = 0 := by
      by_cases ho : o = 0
      · exact ho
      · exfalso
        have : o = 1 := by omega
        subst this
        have h1 : (1 : Int).toNat = 1 := rfl
        rw [h1, Nat.mul_one] at hv
        omega
    subst this
    simp at hv
    rw [show val xs = val a - val b from by omega]
  | succ d ih =>
    intro i xs o hx hxl h0 h1 hd hv
    have g1 := ha.get i
    have g2 := hb.get i
    rw [step ha hb hxl (by omega) hla h0 h1]
    refine ih (i + 1) _ _ (dig_push hx (by omega)) (by simp [hxl]) (by split <;> omega) (by split <;> omega) (by omega) ?_
    rw [val_push, val_take_one, val_take_one, hxl, Nat.pow_succ, Nat.mul_assoc]
    generalize a.getD i 0 = x at *
    generalize b.getD i 0 = y at *
    have e : ((x - (o + y)) % 4294967296).toNat + y.toNat + o.toNat = x.toNat + 4294967296 * (if x < o + y then 1 else 0 : Int).toNat := by split <;> omega
    generalize 4294967296 ^ i = B at *
    have e2 := congrArg (B * ·) e
    simp only [Nat.mul_add] at e2
    omega

noncomputable def sp (a b : List Int) : Prop × List D := (Nrm a ∧ Nrm b ∧ a.length ≤ 4398046511104 ∧ b.length ≤ 4398046511104, [.own tU32 .u32 (dg (val a - val b))])
theorem spec (a b : List Int) (h : (sp a b).1) : evalFn E Try.f9 cod [(pI .u32).put a, (pI .u32).put b] = some (sp a b).2 := by
  obtain ⟨ha, hb, h1, h2⟩ := h
  refine (start a b).trans ?_
  show _ = some [D.own tU32 .u32 (dg (val a - val b))]
  rw [gP ⟨ha, hb, h1, h2⟩]
  by_cases hc : val a ≤ val b
  · rw [bD_pos (by unfold cmpN; split <;> (try split) <;> omega), gP ⟨by omega, by omega⟩, show val a - val b = 0 from by omega]
  · have hl : b.length ≤ a.length := by
      rcases Nat.lt_or_ge a.length b.length with h | h
      · have := nrm_len_lt ha.dig hb h; omega
      · exact h
    rw [bD_neg (by unfold cmpN; rw [if_neg (by omega), if_pos (by omega)]; omega), if_pos ⟨by omega, by omega, by omega⟩]
    exact L ha.dig hb.dig h1 hl (by omega) a.length 0 [] 0 dig_nil rfl (by omega) (by omega) (by omega) (by simp [val])

noncomputable def orc : Orc := orc2 (pI .u32) (pI .u32) sp
theorem fnok : FnOk Try.prog E 9 Try.f9 cod := fnOk ty_ok mixed (callsOk_of _ rfl (orcs_cons Norm.ok (orcs_cons Word.ok (orcs_cons Cmp.ok orcs_nil))) (ext_ok)) Try.func9 rfl rfl rfl
theorem ok : OrcOk Try.prog base.glob 9 orc := fnok.ok2 rfl spec
end Sub
end Go.Proofs.Ytnhebddoclhnnaa.W

/- gnomon/gnomonref07.arctan -/
namespace Go.Proofs.Ytnhebddoclhnnaa.W
open Go Go.Proofs.Ytnhebddoclhnnaa.AI Go.Proofs.Ytnhebddoclhnnaa.M
namespace Arctan
noncomputable def E : Env := { ({ base with C := callsOf [(31, Pow2.orc), (25, DivSmall.orc), (17, Word.orc), (22, Add.orc), (9, Sub.orc)] }) with nt := 61, own := [59], keep := fun k => (tlook [(5, [0, 6, 8, 9, 10, 11])] k).getD [], cut := tlook [(11, [0, 6, 8, 9, 10, 11])] }
noncomputable def cod : Code := (Go.Proofs.Try.f21.body).getD .skip
theorem nok : namesOk E cod = true := by kernel_rfl
noncomputable def L5 (x0 : Int) (xs1 : List Int) (xs2 : List Int) (xs3 : List Int) (x4 : Int) (x5 : Int) : Option (List D) := lpO E Go.Proofs.Try.f21 cod 5 [(A.v (V.one (L.s (S.sc (Value.int IntKind.u32 x0)))), none), (A.v (V.one (L.s (S.ints IntKind.u32 xs1))), none), (A.v (V.one (L.s (S.ints IntKind.u32 xs2))), none), (A.v (V.one (L.s (S.ints IntKind.u32 xs3))), none), (A.v (V.one (L.s (S.sc (Value.int IntKind.i64 x4)))), none), (A.v (V.one (L.s (S.sc (Value.int IntKind.u32 x5)))), none)]
noncomputable def J11 (x0 : Int) (xs1 : List Int) (xs2 : List Int) (xs3 : List Int) (x4 : Int) (x5 : Int) : Option (List D) := ctO E Go.Proofs.Try.f21 cod 11 [(A.v (V.one (L.s (S.sc (Value.int IntKind.u32 x0)))), none), (A.v (V.one (L.s (S.ints IntKind.u32 xs1))), none), (A.v (V.one (L.s (S.ints IntKind.u32 xs2))), none), (A.v (V.one (L.s (S.ints IntKind.u32 xs3))), none), (A.v (V.one (L.s (S.sc (Value.int IntKind.i64 x4)))), none), (A.v (V.one (L.s (S.sc (Value.int IntKind.u32 x5)))), none)]
theorem start (a : Int) (b : Int) : evalFn E Go.Proofs.Try.f21 cod [D.s (S.sc (Value.int IntKind.u32 a)), D.s (S.sc (Value.int IntKind.i64 b))] = gif (b ≤ (1099511627776 : Int)) (gif (Dig (dg ((2 : Nat) ^ b.toNat)) ∧ (dg ((2 : Nat) ^ b.toNat)).length ≤ (1099511627776 : Nat) ∧ (0 : Int) < a ∧ a < (4294967296 : Int)) (gif ((0 : Int) ≤ (0 : Int) ∧ (0 : Int) < (18446744073709551616 : Int)) (gif ((0 : Int) ≤ (0 : Int) ∧ (0 : Int) < (18446744073709551616 : Int)) (Arctan.L5 a (dg (val (dg ((2 : Nat) ^ b.toNat)) / a.toNat)) (dg (0 : Nat)) (dg (0 : Nat)) (0 : Int) (1 : Int))))) := (evalFn_J rfl nok _).trans (by kernel_rfl)
theorem L5_eq (x0 : Int) (xs1 : List Int) (xs2 : List Int) (xs3 : List Int) (x4 : Int) (x5 : Int) : L5 x0 xs1 xs2 xs3 x4 x5 = bcase (decide ((0 : Int) < (↑xs1.length : Int))) (gif (Dig xs1 ∧ xs1.length ≤ (1099511627776 : Nat) ∧ (0 : Int) < x5 ∧ x5 < (4294967296 : Int)) (bcase (x5.tmod (4 : Int) == (1 : Int)) (gif (Dig xs2 ∧ Dig (dg (val xs1 / x5.toNat)) ∧ xs2.length ≤ (1099511627776 : Nat) ∧ (dg (val xs1 / x5.toNat)).length ≤ (1099511627776 : Nat)) (Arctan.J11 x0 xs1 (dg (val xs2 + val (dg (val xs1 / x5.toNat)))) xs3 x4 x5)) (gif (Dig xs3 ∧ Dig (dg (val xs1 / x5.toNat)) ∧ xs3.length ≤ (1099511627776 : Nat) ∧ (dg (val xs1 / x5.toNat)).length ≤ (1099511627776 : Nat)) (Arctan.J11 x0 xs1 xs2 (dg (val xs3 + val (dg (val xs1 / x5.toNat)))) x4 x5)))) (gif (Nrm xs2 ∧ Nrm xs3 ∧ xs2.length ≤ (4398046511104 : Nat) ∧ xs3.length ≤ (4398046511104 : Nat)) (some [D.own (42 : Nat) IntKind.u32 (dg (val xs2 - val xs3)), D.s (S.sc (Value.int IntKind.i64 x4))])) := (loopAt_J rfl nok 5 _).trans (by kernel_rfl)
theorem J11_eq (x0 : Int) (xs1 : List Int) (xs2 : List Int) (xs3 : List Int) (x4 : Int) (x5 : Int) : J11 x0 xs1 xs2 xs3 x4 x5 = gif (Dig xs1 ∧ xs1.length ≤ (1099511627776 : Nat) ∧ (0 : Int) < x0 ∧ x0 < (4294967296 : Int)) (gif (Dig (dg (val xs1 / x0.toNat)) ∧ (dg (val xs1 / x0.toNat)).length ≤ (1099511627776 : Nat) ∧ (0 : Int) < x0 ∧ x0 < (4294967296 : Int)) (Arctan.L5 x0 (dg (val (dg (val xs1 / x0.toNat)) / x0.toNat)) xs2 xs3 (IntKind.i64.wrap (x4 + (1 : Int))) (IntKind.u32.wrap (x5 + (2 : Int))))) := (cutAt_J rfl nok 11 _).trans (by kernel_rfl)
-- stuck: 0
end Arctan
namespace Arctan
/-- The rounds: of t, the sums, the divisor, the count. -/
def rounds (k : Nat) : Nat → Nat → Nat → Nat → Nat → Nat → Nat × Nat
  | 0, _, p, m, _, n => (p - m, n)
  | f + 1, t, p, m, i, n => if t = 0 then (p - m, n) else if i % 4 = 1 then rounds k f (t / k / k) (p + t / i) m (i + 2) (n + 1) else rounds k f (t / k / k) p (m + t / i) (i + 2) (n + 1)
theorem L {k Q : Nat} (hk : 2 ≤ k) (hk' : k < 4294967296) (hQ : Q ≤ 1000000) : ∀ (f t p m n : Nat), t < 2 ^ Q → t < 4 ^ f → f + n ≤ 1000000 → p < 2 ^ (Q + n + 1) → m < 2 ^ (Q + n + 1) →
    L5 k (dg t) (dg p) (dg m) n ((2 * n + 1 : Nat) : Int) = some [D.own tU32 .u32 (dg (rounds k f t p m (2 * n + 1) n).1), D.s (.sc (.int .i64 ((rounds k f t p m (2 * n + 1) n).2 : Nat)))] := by
  intro f
  induction f with
  | zero =>
    intro t p m n hQ1 ht hf hp hm
    have : t = 0 := by simpa using ht
    subst this
    have lp := len_dg_bits hp
    have lm := len_dg_bits hm
    rw [L5_eq, dg_zero, bD_neg (by simp), gP ⟨nrm_dg _, nrm_dg _, by omega, by omega⟩, val_dg, val_dg]
    rfl
  | succ f ih =>
    intro t p m n hQ1 ht hf hp hm
    have lp := len_dg_bits hp
    have lm := len_dg_bits hm
    have lt := len_dg_bits hQ1
    rw [L5_eq]
    unfold rounds
    by_cases hz : t = 0
    · subst hz
      rw [dg_zero, bD_neg (by simp), gP ⟨nrm_dg _, nrm_dg _, by omega, by omega⟩, val_dg, val_dg, if_pos rfl]
    · have hl0 : (dg t).length ≠ 0 := fun h => hz (dg_len_zero.1 h)
      have ld := len_dg_div t (2 * n + 1)
      have lk := len_dg_div t k
      have lkk := len_dg_div (t / k) k
      have et : (((2 * n + 1 : Nat) : Int)).toNat = 2 * n + 1 := Int.toNat_natCast _
      have ek : ((k : Int)).toNat = k := Int.toNat_natCast _
      have em : (((2 * n + 1 : Nat) : Int)).tmod 4 = (((2 * n + 1) % 4 : Nat) : Int) := by rw [Int.tmod_eq_emod_of_nonneg (by omega)]; omega
      have hJ : ∀ p' m' : Nat, p' < 2 ^ (Q + (n + 1) + 1) → m' < 2 ^ (Q + (n + 1) + 1) → J11 k (dg t) (dg p') (dg m') n ((2 * n + 1 : Nat) : Int) = some [D.own tU32 .u32 (dg (rounds k f (t / k / k) p' m' (2 * n + 1 + 2) (n + 1)).1), D.s (.sc (.int .i64 ((rounds k f (t / k / k) p' m' (2 * n + 1 + 2) (n + 1)).2 : Nat)))] := by
        intro p' m' hp' hm'
        rw [J11_eq, ek, val_dg, val_dg, gP ⟨dig_dg _, by omega, by omega, by omega⟩, gP ⟨dig_dg _, by omega, by omega, by omega⟩, wrap_i64 (by omega) (by omega), wrap_u32n (by omega)]
        have := ih (t / k / k) p' m' (n + 1) (Nat.lt_of_le_of_lt (Nat.div_le_self _ _) (Nat.lt_of_le_of_lt (Nat.div_le_self _ _) hQ1)) ?_ (by omega) hp' hm'
        · rw [show 2 * (n + 1) + 1 = 2 * n + 1 + 2 from by omega] at this
          rw [show ((2 * n + 1 : Nat) : Int) + 2 = ((2 * n + 1 + 2 : Nat) : Int) from by omega, show (n : Int) + 1 = ((n + 1 : Nat) : Int) from by omega]
          exact this
        · rw [Nat.div_div_eq_div_mul]
          apply Nat.div_lt_of_lt_mul
          have : 4 ≤ k * k := Nat.mul_le_mul hk hk
          rw [Nat.pow_succ, Nat.mul_comm] at ht
          exact Nat.lt_of_lt_of_le ht (Nat.mul_le_mul_right _ this)
      have hpw : 2 ^ (Q + (n + 1) + 1) = 2 * 2 ^ (Q + n + 1) := by rw [show Q + (n + 1) + 1 = (Q + n + 1) + 1 from by omega, Nat.pow_succ]; omega
      have hd : t / (2 * n + 1) < 2 ^ (Q + n + 1) := Nat.lt_of_le_of_lt (Nat.div_le_self _ _) (Nat.lt_of_lt_of_le hQ1 (Nat.pow_le_pow_right (by omega) (by omega)))
      rw [bD_pos (by omega), et, val_dg, val_dg, val_dg, val_dg, gP ⟨dig_dg _, by omega, by omega, by omega⟩, em, if_neg hz]
      by_cases hc : (2 * n + 1) % 4 = 1
      · rw [bE_pos (by omega), gP ⟨dig_dg _, dig_dg _, by omega, by omega⟩, if_pos hc, hJ (p + t / (2 * n + 1)) m (by rw [hpw]; omega) (by rw [hpw]; omega)]
      · rw [bE_neg (by omega), gP ⟨dig_dg _, dig_dg _, by omega, by omega⟩, if_neg hc, hJ p (m + t / (2 * n + 1)) (by rw [hpw]; omega) (by rw [hpw]; omega)]

theorem rounds_lt {k Q : Nat} : ∀ (f t p m i n : Nat), t < 2 ^ Q → p < 2 ^ (Q + n + 1) → (rounds k f t p m i n).1 < 2 ^ (Q + n + f + 1) ∧ (rounds k f t p m i n).2 ≤ n + f := by
  intro f
  induction f with
  | zero =>
    intro t p m i n ht hp
    exact ⟨Nat.lt_of_le_of_lt (Nat.sub_le _ _) hp, by simp [rounds]⟩
  | succ f ih =>
    intro t p m i n ht hp
    have hpw : 2 ^ (Q + n + 1) ≤ 2 ^ (Q + n + (f + 1) + 1) := Nat.pow_le_pow_right (by omega) (by omega)
    have hpw2 : 2 ^ (Q + (n + 1) + 1) = 2 * 2 ^ (Q + n + 1) := by rw [show Q + (n + 1) + 1 = (Q + n + 1) + 1 from by omega, Nat.pow_succ]; omega
    have hd : t / i < 2 ^ (Q + n + 1) := Nat.lt_of_le_of_lt (Nat.div_le_self _ _) (Nat.lt_of_lt_of_le ht (Nat.pow_le_pow_right (by omega) (by omega)))
    have hk : t / k / k < 2 ^ Q := Nat.lt_of_le_of_lt (Nat.div_le_self _ _) (Nat.lt_of_le_of_lt (Nat.div_le_self _ _) ht)
    unfold rounds
    split
    · refine ⟨Nat.lt_of_lt_of_le (Nat.lt_of_le_of_lt (Nat.sub_le _ _) hp) hpw, by simp⟩
    · split
      · have := ih (t / k / k) (p + t / i) m (i + 2) (n + 1) hk (by rw [hpw2]; omega)
        rw [show Q + (n + 1) + f + 1 = Q + n + (f + 1) + 1 from by omega] at this
        exact ⟨this.1, by omega⟩
      · have := ih (t / k / k) p (m + t / i) (i + 2) (n + 1) hk (by rw [hpw2]; omega)
        rw [show Q + (n + 1) + f + 1 = Q + n + (f + 1) + 1 from by omega] at this
        exact ⟨this.1, by omega⟩

def atan (k q : Nat) : Nat × Nat := rounds k (q + 2) (2 ^ q / k) 0 0 1 0
theorem atan_lt (k q : Nat) : (atan k q).1 < 2 ^ (2 * q + 4) ∧ (atan k q).2 ≤ q + 2 := by
  have hb : 2 ^ q / k < 2 ^ (q + 1) := Nat.lt_of_le_of_lt (Nat.div_le_self _ _) (Nat.pow_lt_pow_right (by omega) (by omega))
  have := rounds_lt (k := k) (Q := q + 1) (q + 2) (2 ^ q / k) 0 0 1 0 hb (Nat.pow_pos (by omega))
  rw [show q + 1 + 0 + (q + 2) + 1 = 2 * q + 4 from by omega] at this
  exact ⟨this.1, by have := this.2; unfold atan; omega⟩
noncomputable def sp (k q : Int) : Prop × List D := ((2 ≤ k ∧ k < 4294967296) ∧ 0 ≤ q ∧ q ≤ 500000, [.own tU32 .u32 (dg (atan k.toNat q.toNat).1), .s (.sc (.int .i64 ((atan k.toNat q.toNat).2 : Nat)))])
theorem spec (k q : Int) (h : (sp k q).1) : evalFn E Try.f21 cod [(pN .u32).put k, (pN .i64).put q] = some (sp k q).2 := by
  obtain ⟨⟨h1, h2⟩, h3, h4⟩ := h
  refine (start k q).trans ?_
  obtain ⟨k, rfl⟩ := Int.eq_ofNat_of_zero_le (show 0 ≤ k by omega)
  obtain ⟨q, rfl⟩ := Int.eq_ofNat_of_zero_le h3
  have lq := len_dg_bits (n := 2 ^ q) (k := q + 1) (Nat.pow_lt_pow_right (by omega) (by omega))
  have hb : 2 ^ q / k < 2 ^ (q + 1) := Nat.lt_of_le_of_lt (Nat.div_le_self _ _) (Nat.pow_lt_pow_right (by omega) (by omega))
  rw [gP (by omega), Int.toNat_natCast, Int.toNat_natCast, gP ⟨dig_dg _, by omega, by omega, by omega⟩, gP ⟨by omega, by omega⟩, gP ⟨by omega, by omega⟩, val_dg]
  have := L (k := k) (Q := q + 1) (by omega) (by omega) (by omega) (q + 2) (2 ^ q / k) 0 0 0 hb (Nat.lt_of_lt_of_le hb (by rw [show (4 : Nat) = 2 ^ 2 from rfl, ← Nat.pow_mul]; exact Nat.pow_le_pow_right (by omega) (by omega))) (by omega) (Nat.pow_pos (by omega)) (Nat.pow_pos (by omega))
  exact this

noncomputable def orc : Orc := orc2 (pN .u32) (pN .i64) sp
theorem fnok : FnOk Try.prog E 21 Try.f21 cod := fnOk ty_ok mixed (callsOk_of _ rfl (orcs_cons Pow2.ok (orcs_cons DivSmall.ok (orcs_cons Word.ok (orcs_cons Add.ok (orcs_cons Sub.ok orcs_nil))))) (ext_ok)) Try.func21 rfl rfl rfl
theorem ok : OrcOk Try.prog base.glob 21 orc := fnok.ok2 rfl spec
end Arctan
end Go.Proofs.Ytnhebddoclhnnaa.W

/- gnomon/gnomonref01.Small -/
namespace Go.Proofs.Ytnhebddoclhnnaa.W
open Go Go.Proofs.Ytnhebddoclhnnaa.AI Go.Proofs.Ytnhebddoclhnnaa.M
namespace Small
noncomputable def E : Env := { ({ base with C := callsOf [(17, Word.orc)] }) with nt := 9, own := [5, 8], keep := fun k => (tlook [] k).getD [], cut := tlook [] }
noncomputable def cod : Code := (Go.Proofs.Try.f24.body).getD .skip
theorem nok : namesOk E cod = true := by kernel_rfl
theorem start (a : Int) : evalFn E Go.Proofs.Try.f24 cod [D.s (S.sc (Value.int IntKind.i64 a))] = bcase (decide (a < (0 : Int))) (gif ((0 : Int) ≤ (0 : Int) ∧ (0 : Int) < (18446744073709551616 : Int)) (some [D.own (42 : Nat) IntKind.u32 (dg (0 : Nat))])) (gif ((0 : Int) ≤ IntKind.u64.wrap a ∧ IntKind.u64.wrap a < (18446744073709551616 : Int)) (some [D.own (42 : Nat) IntKind.u32 (dg (IntKind.u64.wrap a).toNat)])) := (evalFn_J rfl nok _).trans (by kernel_rfl)
-- stuck: 0
end Small
namespace Small
noncomputable def sp (a : Int) : Prop × List D := (-9223372036854775808 ≤ a ∧ a < 9223372036854775808, [.own tU32 .u32 (dg a.toNat)])
theorem spec (a : Int) (h : (sp a).1) : evalFn E Try.f24 cod [(pN .i64).put a] = some (sp a).2 := by
  obtain ⟨h1, h2⟩ := h
  refine (start a).trans ?_
  show _ = some [D.own tU32 .u32 (dg a.toNat)]
  by_cases hn : a < 0
  · rw [bD_pos hn, gP ⟨by omega, by omega⟩, show a.toNat = 0 from by omega]
  · rw [bD_neg hn, wrap_u64 (by omega) (by omega), gP ⟨by omega, by omega⟩]

noncomputable def orc : Orc := orc1 (pN .i64) sp
theorem fnok : FnOk Try.prog E 24 Try.f24 cod := fnOk ty_ok mixed (callsOk_of _ rfl (orcs_cons Word.ok orcs_nil) (ext_ok)) Try.func24 rfl rfl rfl
theorem ok : OrcOk Try.prog base.glob 24 orc := fnok.ok1 rfl spec
end Small
end Go.Proofs.Ytnhebddoclhnnaa.W

/- gnomon/gnomonref01.Shr -/
namespace Go.Proofs.Ytnhebddoclhnnaa.W
open Go Go.Proofs.Ytnhebddoclhnnaa.AI Go.Proofs.Ytnhebddoclhnnaa.M
namespace Shr
noncomputable def E : Env := { ({ base with C := callsOf [(18, Norm.orc), (17, Word.orc), (25, DivSmall.orc)] }) with nt := 29, own := [10, 16, 25], keep := fun k => (tlook [] k).getD [], cut := tlook [] }
noncomputable def cod : Code := (Go.Proofs.Try.f15.body).getD .skip
theorem nok : namesOk E cod = true := by kernel_rfl
theorem start (a : List Int) (b : Int) : evalFn E Go.Proofs.Try.f15 cod [D.s (S.ints IntKind.u32 a), D.s (S.sc (Value.int IntKind.i64 b))] = bcase (decide (b ≤ (0 : Int))) (gif (Dig a ∧ a.length ≤ (4398046511104 : Nat)) (some [D.own (42 : Nat) IntKind.u32 (dg (val a))])) (bcase (decide ((↑a.length : Int) ≤ IntKind.i64.wrap (b.tdiv (32 : Int)))) (gif ((0 : Int) ≤ (0 : Int) ∧ (0 : Int) < (18446744073709551616 : Int)) (some [D.own (42 : Nat) IntKind.u32 (dg (0 : Nat))])) (if (0 : Int) ≤ IntKind.i64.wrap (b.tdiv (32 : Int)) ∧ IntKind.i64.wrap (b.tdiv (32 : Int)) ≤ (↑a.length : Int) ∧ (↑a.length : Int) ≤ (↑a.length : Int) then if b.tmod (32 : Int) < (0 : Int) then none else gif (Dig (List.drop (IntKind.i64.wrap (b.tdiv (32 : Int))).toNat (List.take (↑a.length : Int).toNat a)) ∧ (List.drop (IntKind.i64.wrap (b.tdiv (32 : Int))).toNat (List.take (↑a.length : Int).toNat a)).length ≤ (1099511627776 : Nat) ∧ (0 : Int) < IntKind.u32.wrap ((1 : Int) * (↑((2 : Nat) ^ min (b.tmod (32 : Int)).toNat (32 : Nat)) : Int)) ∧ IntKind.u32.wrap ((1 : Int) * (↑((2 : Nat) ^ min (b.tmod (32 : Int)).toNat (32 : Nat)) : Int)) < (4294967296 : Int)) (some [D.own (42 : Nat) IntKind.u32 (dg (val (List.drop (IntKind.i64.wrap (b.tdiv (32 : Int))).toNat (List.take (↑a.length : Int).toNat a)) / (IntKind.u32.wrap ((1 : Int) * (↑((2 : Nat) ^ min (b.tmod (32 : Int)).toNat (32 : Nat)) : Int))).toNat))]) else none)) := (evalFn_J rfl nok _).trans (by kernel_rfl)
-- stuck: 0
end Shr
namespace Shr
noncomputable def sp (a : List Int) (n : Int) : Prop × List D := (Dig a ∧ a.length ≤ 1099511627776 ∧ n < 9223372036854775808, [.own tU32 .u32 (dg (val a / 2 ^ n.toNat))])
theorem spec (a : List Int) (n : Int) (h : (sp a n).1) : evalFn E Try.f15 cod [(pI .u32).put a, (pN .i64).put n] = some (sp a n).2 := by
  obtain ⟨ha, h1, h2⟩ := h
  refine (start a n).trans ?_
  show _ = some [D.own tU32 .u32 (dg (val a / 2 ^ n.toNat))]
  by_cases hn : n ≤ 0
  · rw [bD_pos hn, gP ⟨ha, by omega⟩, show n.toNat = 0 from by omega, Nat.pow_zero, Nat.div_one]
  · have e1 : (n % 32).toNat = n.toNat % 32 := by omega
    have e2 : (n / 32).toNat = n.toNat / 32 := by omega
    rw [bD_neg hn, tdiv32 (by omega), tmod32 (by omega), wrap_i64 (n := n / 32) (by omega) (by omega)]
    by_cases hz : (a.length : Int) ≤ n / 32
    · rw [bD_pos hz, gP ⟨by omega, by omega⟩, Nat.div_eq_of_lt]
      rw [pow_split]
      have h3 : val a < 4294967296 ^ (n.toNat / 32) := Nat.lt_of_lt_of_le (val_lt ha) (Nat.pow_le_pow_right (by omega) (by omega))
      have hp0 : 0 < 2 ^ (n.toNat % 32) := Nat.pow_pos (by omega)
      exact Nat.lt_of_lt_of_le h3 (Nat.le_mul_of_pos_right _ hp0)
    · have hp : 2 ^ (n.toNat % 32) < 2 ^ 32 := Nat.pow_lt_pow_right (by omega) (by omega)
      have hp0 : 0 < 2 ^ (n.toNat % 32) := Nat.pow_pos (by omega)
      rw [bD_neg hz, if_pos ⟨by omega, by omega, by omega⟩, if_neg (by omega), shl_wrap (by omega) (by omega), Int.toNat_natCast, List.take_length, e1, e2]
      rw [gP ⟨ha.drop _, by rw [List.length_drop]; omega, by generalize 2 ^ (n.toNat % 32) = p at *; omega⟩, Int.toNat_natCast, val_drop_div ha, div_split]

noncomputable def orc : Orc := orc2 (pI .u32) (pN .i64) sp
theorem fnok : FnOk Try.prog E 15 Try.f15 cod := fnOk ty_ok mixed (callsOk_of _ rfl (orcs_cons Norm.ok (orcs_cons Word.ok (orcs_cons DivSmall.ok orcs_nil))) (ext_ok)) Try.func15 rfl rfl rfl
theorem ok : OrcOk Try.prog base.glob 15 orc := fnok.ok2 rfl spec
end Shr
end Go.Proofs.Ytnhebddoclhnnaa.W

/- gnomon/gnomonref07.PiFloor -/
namespace Go.Proofs.Ytnhebddoclhnnaa.W
open Go Go.Proofs.Ytnhebddoclhnnaa.AI Go.Proofs.Ytnhebddoclhnnaa.M
namespace PiFloor
noncomputable def E : Env := { ({ base with C := callsOf [(21, Arctan.orc), (9, Sub.orc), (22, Add.orc), (23, MulSmall.orc), (24, Small.orc), (15, Shr.orc), (16, Cmp.orc)] }) with nt := 75, own := [64], keep := fun k => (tlook [(4, [0, 3])] k).getD [], cut := tlook [] }
noncomputable def cod : Code := (Go.Proofs.Try.f12.body).getD .skip
theorem nok : namesOk E cod = true := by kernel_rfl
noncomputable def L4 (x0 : Int) (x1 : Int) : Option (List D) := lpO E Go.Proofs.Try.f12 cod 4 [(A.v (V.one (L.s (S.sc (Value.int IntKind.i64 x0)))), none), (A.v (V.one (L.s (S.sc (Value.int IntKind.i64 x1)))), none)]
theorem start (a : Int) : evalFn E Go.Proofs.Try.f12 cod [D.s (S.sc (Value.int IntKind.i64 a))] = PiFloor.L4 (if (0 : Int) > a then (0 : Int) else a) (64 : Int) := (evalFn_J rfl nok _).trans (by kernel_rfl)
theorem L4_eq (x0 : Int) (x1 : Int) : L4 x0 x1 = gif (((2 : Int) ≤ (18 : Int) ∧ (18 : Int) < (4294967296 : Int)) ∧ (0 : Int) ≤ IntKind.i64.wrap (x0 + x1) ∧ IntKind.i64.wrap (x0 + x1) ≤ (500000 : Int))
  (gif (((2 : Int) ≤ (57 : Int) ∧ (57 : Int) < (4294967296 : Int)) ∧ (0 : Int) ≤ IntKind.i64.wrap (x0 + x1) ∧ IntKind.i64.wrap (x0 + x1) ≤ (500000 : Int))
    (gif (((2 : Int) ≤ (239 : Int) ∧ (239 : Int) < (4294967296 : Int)) ∧ (0 : Int) ≤ IntKind.i64.wrap (x0 + x1) ∧ IntKind.i64.wrap (x0 + x1) ≤ (500000 : Int))
      (gif (Dig (dg (Arctan.atan (Int.toNat (18 : Int)) (IntKind.i64.wrap (x0 + x1)).toNat).fst) ∧ (dg (Arctan.atan (Int.toNat (18 : Int)) (IntKind.i64.wrap (x0 + x1)).toNat).fst).length ≤ (1099511627776 : Nat) ∧ ((0 : Int) ≤ (48 : Int) ∧ (48 : Int) < (4294967296 : Int)) ∧ (0 : Int) ≤ (0 : Int) ∧ (0 : Int) < (4294967296 : Int))
        (gif (Dig (dg (Arctan.atan (Int.toNat (57 : Int)) (IntKind.i64.wrap (x0 + x1)).toNat).fst) ∧ (dg (Arctan.atan (Int.toNat (57 : Int)) (IntKind.i64.wrap (x0 + x1)).toNat).fst).length ≤ (1099511627776 : Nat) ∧ ((0 : Int) ≤ (32 : Int) ∧ (32 : Int) < (4294967296 : Int)) ∧ (0 : Int) ≤ (0 : Int) ∧ (0 : Int) < (4294967296 : Int))
          (gif (Dig (dg (val (dg (Arctan.atan (Int.toNat (18 : Int)) (IntKind.i64.wrap (x0 + x1)).toNat).fst) * (48 : Nat) + (0 : Nat))) ∧ Dig (dg (val (dg (Arctan.atan (Int.toNat (57 : Int)) (IntKind.i64.wrap (x0 + x1)).toNat).fst) * (32 : Nat) + (0 : Nat))) ∧ (dg (val (dg (Arctan.atan (Int.toNat (18 : Int)) (IntKind.i64.wrap (x0 + x1)).toNat).fst) * (48 : Nat) + (0 : Nat))).length ≤ (1099511627776 : Nat) ∧ (dg (val (dg (Arctan.atan (Int.toNat (57 : Int)) (IntKind.i64.wrap (x0 + x1)).toNat).fst) * (32 : Nat) + (0 : Nat))).length ≤ (1099511627776 : Nat))
            (gif (Dig (dg (Arctan.atan (Int.toNat (239 : Int)) (IntKind.i64.wrap (x0 + x1)).toNat).fst) ∧ (dg (Arctan.atan (Int.toNat (239 : Int)) (IntKind.i64.wrap (x0 + x1)).toNat).fst).length ≤ (1099511627776 : Nat) ∧ ((0 : Int) ≤ (20 : Int) ∧ (20 : Int) < (4294967296 : Int)) ∧ (0 : Int) ≤ (0 : Int) ∧ (0 : Int) < (4294967296 : Int))
              (gif (Nrm (dg (val (dg (val (dg (Arctan.atan (Int.toNat (18 : Int)) (IntKind.i64.wrap (x0 + x1)).toNat).fst) * (48 : Nat) + (0 : Nat))) + val (dg (val (dg (Arctan.atan (Int.toNat (57 : Int)) (IntKind.i64.wrap (x0 + x1)).toNat).fst) * (32 : Nat) + (0 : Nat))))) ∧ Nrm (dg (val (dg (Arctan.atan (Int.toNat (239 : Int)) (IntKind.i64.wrap (x0 + x1)).toNat).fst) * (20 : Nat) + (0 : Nat))) ∧ (dg (val (dg (val (dg (Arctan.atan (Int.toNat (18 : Int)) (IntKind.i64.wrap (x0 + x1)).toNat).fst) * (48 : Nat) + (0 : Nat))) + val (dg (val (dg (Arctan.atan (Int.toNat (57 : Int)) (IntKind.i64.wrap (x0 + x1)).toNat).fst) * (32 : Nat) + (0 : Nat))))).length ≤ (4398046511104 : Nat) ∧ (dg (val (dg (Arctan.atan (Int.toNat (239 : Int)) (IntKind.i64.wrap (x0 + x1)).toNat).fst) * (20 : Nat) + (0 : Nat))).length ≤ (4398046511104 : Nat))
                (gif ((-9223372036854775808 : Int) ≤ IntKind.i64.wrap ((4 : Int) * IntKind.i64.wrap (IntKind.i64.wrap (IntKind.i64.wrap ((48 : Int) * IntKind.i64.wrap ((↑(Arctan.atan (Int.toNat (18 : Int)) (IntKind.i64.wrap (x0 + x1)).toNat).snd : Int) + (2 : Int))) + IntKind.i64.wrap ((32 : Int) * IntKind.i64.wrap ((↑(Arctan.atan (Int.toNat (57 : Int)) (IntKind.i64.wrap (x0 + x1)).toNat).snd : Int) + (2 : Int)))) + IntKind.i64.wrap ((20 : Int) * IntKind.i64.wrap ((↑(Arctan.atan (Int.toNat (239 : Int)) (IntKind.i64.wrap (x0 + x1)).toNat).snd : Int) + (2 : Int))))) ∧ IntKind.i64.wrap ((4 : Int) * IntKind.i64.wrap (IntKind.i64.wrap (IntKind.i64.wrap ((48 : Int) * IntKind.i64.wrap ((↑(Arctan.atan (Int.toNat (18 : Int)) (IntKind.i64.wrap (x0 + x1)).toNat).snd : Int) + (2 : Int))) + IntKind.i64.wrap ((32 : Int) * IntKind.i64.wrap ((↑(Arctan.atan (Int.toNat (57 : Int)) (IntKind.i64.wrap (x0 + x1)).toNat).snd : Int) + (2 : Int)))) + IntKind.i64.wrap ((20 : Int) * IntKind.i64.wrap ((↑(Arctan.atan (Int.toNat (239 : Int)) (IntKind.i64.wrap (x0 + x1)).toNat).snd : Int) + (2 : Int))))) < (9223372036854775808 : Int))
                  (gif (Nrm (dg (val (dg (val (dg (val (dg (Arctan.atan (Int.toNat (18 : Int)) (IntKind.i64.wrap (x0 + x1)).toNat).fst) * (48 : Nat) + (0 : Nat))) + val (dg (val (dg (Arctan.atan (Int.toNat (57 : Int)) (IntKind.i64.wrap (x0 + x1)).toNat).fst) * (32 : Nat) + (0 : Nat))))) - val (dg (val (dg (Arctan.atan (Int.toNat (239 : Int)) (IntKind.i64.wrap (x0 + x1)).toNat).fst) * (20 : Nat) + (0 : Nat))))) ∧ Nrm (dg (IntKind.i64.wrap ((4 : Int) * IntKind.i64.wrap (IntKind.i64.wrap (IntKind.i64.wrap ((48 : Int) * IntKind.i64.wrap ((↑(Arctan.atan (Int.toNat (18 : Int)) (IntKind.i64.wrap (x0 + x1)).toNat).snd : Int) + (2 : Int))) + IntKind.i64.wrap ((32 : Int) * IntKind.i64.wrap ((↑(Arctan.atan (Int.toNat (57 : Int)) (IntKind.i64.wrap (x0 + x1)).toNat).snd : Int) + (2 : Int)))) + IntKind.i64.wrap ((20 : Int) * IntKind.i64.wrap ((↑(Arctan.atan (Int.toNat (239 : Int)) (IntKind.i64.wrap (x0 + x1)).toNat).snd : Int) + (2 : Int)))))).toNat) ∧ (dg (val (dg (val (dg (val (dg (Arctan.atan (Int.toNat (18 : Int)) (IntKind.i64.wrap (x0 + x1)).toNat).fst) * (48 : Nat) + (0 : Nat))) + val (dg (val (dg (Arctan.atan (Int.toNat (57 : Int)) (IntKind.i64.wrap (x0 + x1)).toNat).fst) * (32 : Nat) + (0 : Nat))))) - val (dg (val (dg (Arctan.atan (Int.toNat (239 : Int)) (IntKind.i64.wrap (x0 + x1)).toNat).fst) * (20 : Nat) + (0 : Nat))))).length ≤ (4398046511104 : Nat) ∧ (dg (IntKind.i64.wrap ((4 : Int) * IntKind.i64.wrap (IntKind.i64.wrap (IntKind.i64.wrap ((48 : Int) * IntKind.i64.wrap ((↑(Arctan.atan (Int.toNat (18 : Int)) (IntKind.i64.wrap (x0 + x1)).toNat).snd : Int) + (2 : Int))) + IntKind.i64.wrap ((32 : Int) * IntKind.i64.wrap ((↑(Arctan.atan (Int.toNat (57 : Int)) (IntKind.i64.wrap (x0 + x1)).toNat).snd : Int) + (2 : Int)))) + IntKind.i64.wrap ((20 : Int) * IntKind.i64.wrap ((↑(Arctan.atan (Int.toNat (239 : Int)) (IntKind.i64.wrap (x0 + x1)).toNat).snd : Int) + (2 : Int)))))).toNat).length ≤ (4398046511104 : Nat))
                    (gif (Dig (dg (val (dg (val (dg (val (dg (val (dg (Arctan.atan (Int.toNat (18 : Int)) (IntKind.i64.wrap (x0 + x1)).toNat).fst) * (48 : Nat) + (0 : Nat))) + val (dg (val (dg (Arctan.atan (Int.toNat (57 : Int)) (IntKind.i64.wrap (x0 + x1)).toNat).fst) * (32 : Nat) + (0 : Nat))))) - val (dg (val (dg (Arctan.atan (Int.toNat (239 : Int)) (IntKind.i64.wrap (x0 + x1)).toNat).fst) * (20 : Nat) + (0 : Nat))))) - val (dg (IntKind.i64.wrap ((4 : Int) * IntKind.i64.wrap (IntKind.i64.wrap (IntKind.i64.wrap ((48 : Int) * IntKind.i64.wrap ((↑(Arctan.atan (Int.toNat (18 : Int)) (IntKind.i64.wrap (x0 + x1)).toNat).snd : Int) + (2 : Int))) + IntKind.i64.wrap ((32 : Int) * IntKind.i64.wrap ((↑(Arctan.atan (Int.toNat (57 : Int)) (IntKind.i64.wrap (x0 + x1)).toNat).snd : Int) + (2 : Int)))) + IntKind.i64.wrap ((20 : Int) * IntKind.i64.wrap ((↑(Arctan.atan (Int.toNat (239 : Int)) (IntKind.i64.wrap (x0 + x1)).toNat).snd : Int) + (2 : Int)))))).toNat))) ∧ (dg (val (dg (val (dg (val (dg (val (dg (Arctan.atan (Int.toNat (18 : Int)) (IntKind.i64.wrap (x0 + x1)).toNat).fst) * (48 : Nat) + (0 : Nat))) + val (dg (val (dg (Arctan.atan (Int.toNat (57 : Int)) (IntKind.i64.wrap (x0 + x1)).toNat).fst) * (32 : Nat) + (0 : Nat))))) - val (dg (val (dg (Arctan.atan (Int.toNat (239 : Int)) (IntKind.i64.wrap (x0 + x1)).toNat).fst) * (20 : Nat) + (0 : Nat))))) - val (dg (IntKind.i64.wrap ((4 : Int) * IntKind.i64.wrap (IntKind.i64.wrap (IntKind.i64.wrap ((48 : Int) * IntKind.i64.wrap ((↑(Arctan.atan (Int.toNat (18 : Int)) (IntKind.i64.wrap (x0 + x1)).toNat).snd : Int) + (2 : Int))) + IntKind.i64.wrap ((32 : Int) * IntKind.i64.wrap ((↑(Arctan.atan (Int.toNat (57 : Int)) (IntKind.i64.wrap (x0 + x1)).toNat).snd : Int) + (2 : Int)))) + IntKind.i64.wrap ((20 : Int) * IntKind.i64.wrap ((↑(Arctan.atan (Int.toNat (239 : Int)) (IntKind.i64.wrap (x0 + x1)).toNat).snd : Int) + (2 : Int)))))).toNat))).length ≤ (1099511627776 : Nat) ∧ x1 < (9223372036854775808 : Int))
                      (gif (Dig (dg (val (dg (val (dg (val (dg (Arctan.atan (Int.toNat (18 : Int)) (IntKind.i64.wrap (x0 + x1)).toNat).fst) * (48 : Nat) + (0 : Nat))) + val (dg (val (dg (Arctan.atan (Int.toNat (57 : Int)) (IntKind.i64.wrap (x0 + x1)).toNat).fst) * (32 : Nat) + (0 : Nat))))) - val (dg (val (dg (Arctan.atan (Int.toNat (239 : Int)) (IntKind.i64.wrap (x0 + x1)).toNat).fst) * (20 : Nat) + (0 : Nat))))) ∧ Dig (dg (IntKind.i64.wrap ((4 : Int) * IntKind.i64.wrap (IntKind.i64.wrap (IntKind.i64.wrap ((48 : Int) * IntKind.i64.wrap ((↑(Arctan.atan (Int.toNat (18 : Int)) (IntKind.i64.wrap (x0 + x1)).toNat).snd : Int) + (2 : Int))) + IntKind.i64.wrap ((32 : Int) * IntKind.i64.wrap ((↑(Arctan.atan (Int.toNat (57 : Int)) (IntKind.i64.wrap (x0 + x1)).toNat).snd : Int) + (2 : Int)))) + IntKind.i64.wrap ((20 : Int) * IntKind.i64.wrap ((↑(Arctan.atan (Int.toNat (239 : Int)) (IntKind.i64.wrap (x0 + x1)).toNat).snd : Int) + (2 : Int)))))).toNat) ∧ (dg (val (dg (val (dg (val (dg (Arctan.atan (Int.toNat (18 : Int)) (IntKind.i64.wrap (x0 + x1)).toNat).fst) * (48 : Nat) + (0 : Nat))) + val (dg (val (dg (Arctan.atan (Int.toNat (57 : Int)) (IntKind.i64.wrap (x0 + x1)).toNat).fst) * (32 : Nat) + (0 : Nat))))) - val (dg (val (dg (Arctan.atan (Int.toNat (239 : Int)) (IntKind.i64.wrap (x0 + x1)).toNat).fst) * (20 : Nat) + (0 : Nat))))).length ≤ (1099511627776 : Nat) ∧ (dg (IntKind.i64.wrap ((4 : Int) * IntKind.i64.wrap (IntKind.i64.wrap (IntKind.i64.wrap ((48 : Int) * IntKind.i64.wrap ((↑(Arctan.atan (Int.toNat (18 : Int)) (IntKind.i64.wrap (x0 + x1)).toNat).snd : Int) + (2 : Int))) + IntKind.i64.wrap ((32 : Int) * IntKind.i64.wrap ((↑(Arctan.atan (Int.toNat (57 : Int)) (IntKind.i64.wrap (x0 + x1)).toNat).snd : Int) + (2 : Int)))) + IntKind.i64.wrap ((20 : Int) * IntKind.i64.wrap ((↑(Arctan.atan (Int.toNat (239 : Int)) (IntKind.i64.wrap (x0 + x1)).toNat).snd : Int) + (2 : Int)))))).toNat).length ≤ (1099511627776 : Nat))
                        (gif (Dig (dg (val (dg (val (dg (val (dg (val (dg (Arctan.atan (Int.toNat (18 : Int)) (IntKind.i64.wrap (x0 + x1)).toNat).fst) * (48 : Nat) + (0 : Nat))) + val (dg (val (dg (Arctan.atan (Int.toNat (57 : Int)) (IntKind.i64.wrap (x0 + x1)).toNat).fst) * (32 : Nat) + (0 : Nat))))) - val (dg (val (dg (Arctan.atan (Int.toNat (239 : Int)) (IntKind.i64.wrap (x0 + x1)).toNat).fst) * (20 : Nat) + (0 : Nat))))) + val (dg (IntKind.i64.wrap ((4 : Int) * IntKind.i64.wrap (IntKind.i64.wrap (IntKind.i64.wrap ((48 : Int) * IntKind.i64.wrap ((↑(Arctan.atan (Int.toNat (18 : Int)) (IntKind.i64.wrap (x0 + x1)).toNat).snd : Int) + (2 : Int))) + IntKind.i64.wrap ((32 : Int) * IntKind.i64.wrap ((↑(Arctan.atan (Int.toNat (57 : Int)) (IntKind.i64.wrap (x0 + x1)).toNat).snd : Int) + (2 : Int)))) + IntKind.i64.wrap ((20 : Int) * IntKind.i64.wrap ((↑(Arctan.atan (Int.toNat (239 : Int)) (IntKind.i64.wrap (x0 + x1)).toNat).snd : Int) + (2 : Int)))))).toNat))) ∧ (dg (val (dg (val (dg (val (dg (val (dg (Arctan.atan (Int.toNat (18 : Int)) (IntKind.i64.wrap (x0 + x1)).toNat).fst) * (48 : Nat) + (0 : Nat))) + val (dg (val (dg (Arctan.atan (Int.toNat (57 : Int)) (IntKind.i64.wrap (x0 + x1)).toNat).fst) * (32 : Nat) + (0 : Nat))))) - val (dg (val (dg (Arctan.atan (Int.toNat (239 : Int)) (IntKind.i64.wrap (x0 + x1)).toNat).fst) * (20 : Nat) + (0 : Nat))))) + val (dg (IntKind.i64.wrap ((4 : Int) * IntKind.i64.wrap (IntKind.i64.wrap (IntKind.i64.wrap ((48 : Int) * IntKind.i64.wrap ((↑(Arctan.atan (Int.toNat (18 : Int)) (IntKind.i64.wrap (x0 + x1)).toNat).snd : Int) + (2 : Int))) + IntKind.i64.wrap ((32 : Int) * IntKind.i64.wrap ((↑(Arctan.atan (Int.toNat (57 : Int)) (IntKind.i64.wrap (x0 + x1)).toNat).snd : Int) + (2 : Int)))) + IntKind.i64.wrap ((20 : Int) * IntKind.i64.wrap ((↑(Arctan.atan (Int.toNat (239 : Int)) (IntKind.i64.wrap (x0 + x1)).toNat).snd : Int) + (2 : Int)))))).toNat))).length ≤ (1099511627776 : Nat) ∧ x1 < (9223372036854775808 : Int))
                          (gif (Nrm (dg (val (dg (val (dg (val (dg (val (dg (val (dg (Arctan.atan (Int.toNat (18 : Int)) (IntKind.i64.wrap (x0 + x1)).toNat).fst) * (48 : Nat) + (0 : Nat))) + val (dg (val (dg (Arctan.atan (Int.toNat (57 : Int)) (IntKind.i64.wrap (x0 + x1)).toNat).fst) * (32 : Nat) + (0 : Nat))))) - val (dg (val (dg (Arctan.atan (Int.toNat (239 : Int)) (IntKind.i64.wrap (x0 + x1)).toNat).fst) * (20 : Nat) + (0 : Nat))))) - val (dg (IntKind.i64.wrap ((4 : Int) * IntKind.i64.wrap (IntKind.i64.wrap (IntKind.i64.wrap ((48 : Int) * IntKind.i64.wrap ((↑(Arctan.atan (Int.toNat (18 : Int)) (IntKind.i64.wrap (x0 + x1)).toNat).snd : Int) + (2 : Int))) + IntKind.i64.wrap ((32 : Int) * IntKind.i64.wrap ((↑(Arctan.atan (Int.toNat (57 : Int)) (IntKind.i64.wrap (x0 + x1)).toNat).snd : Int) + (2 : Int)))) + IntKind.i64.wrap ((20 : Int) * IntKind.i64.wrap ((↑(Arctan.atan (Int.toNat (239 : Int)) (IntKind.i64.wrap (x0 + x1)).toNat).snd : Int) + (2 : Int)))))).toNat))) / (2 : Nat) ^ x1.toNat)) ∧ Nrm (dg (val (dg (val (dg (val (dg (val (dg (val (dg (Arctan.atan (Int.toNat (18 : Int)) (IntKind.i64.wrap (x0 + x1)).toNat).fst) * (48 : Nat) + (0 : Nat))) + val (dg (val (dg (Arctan.atan (Int.toNat (57 : Int)) (IntKind.i64.wrap (x0 + x1)).toNat).fst) * (32 : Nat) + (0 : Nat))))) - val (dg (val (dg (Arctan.atan (Int.toNat (239 : Int)) (IntKind.i64.wrap (x0 + x1)).toNat).fst) * (20 : Nat) + (0 : Nat))))) + val (dg (IntKind.i64.wrap ((4 : Int) * IntKind.i64.wrap (IntKind.i64.wrap (IntKind.i64.wrap ((48 : Int) * IntKind.i64.wrap ((↑(Arctan.atan (Int.toNat (18 : Int)) (IntKind.i64.wrap (x0 + x1)).toNat).snd : Int) + (2 : Int))) + IntKind.i64.wrap ((32 : Int) * IntKind.i64.wrap ((↑(Arctan.atan (Int.toNat (57 : Int)) (IntKind.i64.wrap (x0 + x1)).toNat).snd : Int) + (2 : Int)))) + IntKind.i64.wrap ((20 : Int) * IntKind.i64.wrap ((↑(Arctan.atan (Int.toNat (239 : Int)) (IntKind.i64.wrap (x0 + x1)).toNat).snd : Int) + (2 : Int)))))).toNat))) / (2 : Nat) ^ x1.toNat)) ∧ (dg (val (dg (val (dg (val (dg (val (dg (val (dg (Arctan.atan (Int.toNat (18 : Int)) (IntKind.i64.wrap (x0 + x1)).toNat).fst) * (48 : Nat) + (0 : Nat))) + val (dg (val (dg (Arctan.atan (Int.toNat (57 : Int)) (IntKind.i64.wrap (x0 + x1)).toNat).fst) * (32 : Nat) + (0 : Nat))))) - val (dg (val (dg (Arctan.atan (Int.toNat (239 : Int)) (IntKind.i64.wrap (x0 + x1)).toNat).fst) * (20 : Nat) + (0 : Nat))))) - val (dg (IntKind.i64.wrap ((4 : Int) * IntKind.i64.wrap (IntKind.i64.wrap (IntKind.i64.wrap ((48 : Int) * IntKind.i64.wrap ((↑(Arctan.atan (Int.toNat (18 : Int)) (IntKind.i64.wrap (x0 + x1)).toNat).snd : Int) + (2 : Int))) + IntKind.i64.wrap ((32 : Int) * IntKind.i64.wrap ((↑(Arctan.atan (Int.toNat (57 : Int)) (IntKind.i64.wrap (x0 + x1)).toNat).snd : Int) + (2 : Int)))) + IntKind.i64.wrap ((20 : Int) * IntKind.i64.wrap ((↑(Arctan.atan (Int.toNat (239 : Int)) (IntKind.i64.wrap (x0 + x1)).toNat).snd : Int) + (2 : Int)))))).toNat))) / (2 : Nat) ^ x1.toNat)).length ≤ (4398046511104 : Nat) ∧ (dg (val (dg (val (dg (val (dg (val (dg (val (dg (Arctan.atan (Int.toNat (18 : Int)) (IntKind.i64.wrap (x0 + x1)).toNat).fst) * (48 : Nat) + (0 : Nat))) + val (dg (val (dg (Arctan.atan (Int.toNat (57 : Int)) (IntKind.i64.wrap (x0 + x1)).toNat).fst) * (32 : Nat) + (0 : Nat))))) - val (dg (val (dg (Arctan.atan (Int.toNat (239 : Int)) (IntKind.i64.wrap (x0 + x1)).toNat).fst) * (20 : Nat) + (0 : Nat))))) + val (dg (IntKind.i64.wrap ((4 : Int) * IntKind.i64.wrap (IntKind.i64.wrap (IntKind.i64.wrap ((48 : Int) * IntKind.i64.wrap ((↑(Arctan.atan (Int.toNat (18 : Int)) (IntKind.i64.wrap (x0 + x1)).toNat).snd : Int) + (2 : Int))) + IntKind.i64.wrap ((32 : Int) * IntKind.i64.wrap ((↑(Arctan.atan (Int.toNat (57 : Int)) (IntKind.i64.wrap (x0 + x1)).toNat).snd : Int) + (2 : Int)))) + IntKind.i64.wrap ((20 : Int) * IntKind.i64.wrap ((↑(Arctan.atan (Int.toNat (239 : Int)) (IntKind.i64.wrap (x0 + x1)).toNat).snd : Int) + (2 : Int)))))).toNat))) / (2 : Nat) ^ x1.toNat)).length ≤ (4398046511104 : Nat))
                            (bcase (cmpN (val (dg (val (dg (val (dg (val (dg (val (dg (val (dg (Arctan.atan (Int.toNat (18 : Int)) (IntKind.i64.wrap (x0 + x1)).toNat).fst) * (48 : Nat) + (0 : Nat))) + val (dg (val (dg (Arctan.atan (Int.toNat (57 : Int)) (IntKind.i64.wrap (x0 + x1)).toNat).fst) * (32 : Nat) + (0 : Nat))))) - val (dg (val (dg (Arctan.atan (Int.toNat (239 : Int)) (IntKind.i64.wrap (x0 + x1)).toNat).fst) * (20 : Nat) + (0 : Nat))))) - val (dg (IntKind.i64.wrap ((4 : Int) * IntKind.i64.wrap (IntKind.i64.wrap (IntKind.i64.wrap ((48 : Int) * IntKind.i64.wrap ((↑(Arctan.atan (Int.toNat (18 : Int)) (IntKind.i64.wrap (x0 + x1)).toNat).snd : Int) + (2 : Int))) + IntKind.i64.wrap ((32 : Int) * IntKind.i64.wrap ((↑(Arctan.atan (Int.toNat (57 : Int)) (IntKind.i64.wrap (x0 + x1)).toNat).snd : Int) + (2 : Int)))) + IntKind.i64.wrap ((20 : Int) * IntKind.i64.wrap ((↑(Arctan.atan (Int.toNat (239 : Int)) (IntKind.i64.wrap (x0 + x1)).toNat).snd : Int) + (2 : Int)))))).toNat))) / (2 : Nat) ^ x1.toNat))) (val (dg (val (dg (val (dg (val (dg (val (dg (val (dg (Arctan.atan (Int.toNat (18 : Int)) (IntKind.i64.wrap (x0 + x1)).toNat).fst) * (48 : Nat) + (0 : Nat))) + val (dg (val (dg (Arctan.atan (Int.toNat (57 : Int)) (IntKind.i64.wrap (x0 + x1)).toNat).fst) * (32 : Nat) + (0 : Nat))))) - val (dg (val (dg (Arctan.atan (Int.toNat (239 : Int)) (IntKind.i64.wrap (x0 + x1)).toNat).fst) * (20 : Nat) + (0 : Nat))))) + val (dg (IntKind.i64.wrap ((4 : Int) * IntKind.i64.wrap (IntKind.i64.wrap (IntKind.i64.wrap ((48 : Int) * IntKind.i64.wrap ((↑(Arctan.atan (Int.toNat (18 : Int)) (IntKind.i64.wrap (x0 + x1)).toNat).snd : Int) + (2 : Int))) + IntKind.i64.wrap ((32 : Int) * IntKind.i64.wrap ((↑(Arctan.atan (Int.toNat (57 : Int)) (IntKind.i64.wrap (x0 + x1)).toNat).snd : Int) + (2 : Int)))) + IntKind.i64.wrap ((20 : Int) * IntKind.i64.wrap ((↑(Arctan.atan (Int.toNat (239 : Int)) (IntKind.i64.wrap (x0 + x1)).toNat).snd : Int) + (2 : Int)))))).toNat))) / (2 : Nat) ^ x1.toNat))) == (0 : Int)) (some [D.own (42 : Nat) IntKind.u32 (dg (val (dg (val (dg (val (dg (val (dg (val (dg (Arctan.atan (Int.toNat (18 : Int)) (IntKind.i64.wrap (x0 + x1)).toNat).fst) * (48 : Nat) + (0 : Nat))) + val (dg (val (dg (Arctan.atan (Int.toNat (57 : Int)) (IntKind.i64.wrap (x0 + x1)).toNat).fst) * (32 : Nat) + (0 : Nat))))) - val (dg (val (dg (Arctan.atan (Int.toNat (239 : Int)) (IntKind.i64.wrap (x0 + x1)).toNat).fst) * (20 : Nat) + (0 : Nat))))) - val (dg (IntKind.i64.wrap ((4 : Int) * IntKind.i64.wrap (IntKind.i64.wrap (IntKind.i64.wrap ((48 : Int) * IntKind.i64.wrap ((↑(Arctan.atan (Int.toNat (18 : Int)) (IntKind.i64.wrap (x0 + x1)).toNat).snd : Int) + (2 : Int))) + IntKind.i64.wrap ((32 : Int) * IntKind.i64.wrap ((↑(Arctan.atan (Int.toNat (57 : Int)) (IntKind.i64.wrap (x0 + x1)).toNat).snd : Int) + (2 : Int)))) + IntKind.i64.wrap ((20 : Int) * IntKind.i64.wrap ((↑(Arctan.atan (Int.toNat (239 : Int)) (IntKind.i64.wrap (x0 + x1)).toNat).snd : Int) + (2 : Int)))))).toNat))) / (2 : Nat) ^ x1.toNat))]) (PiFloor.L4 x0 (IntKind.i64.wrap (x1 * (2 : Int)))))))))))))))))) := (loopAt_J rfl nok 4 _).trans (by kernel_rfl)
-- stuck: 0
end PiFloor
namespace PiFloor
/-- What is tried: below pi and above it, in units of 2^-q. -/
def piTry (q g : Nat) : Nat × Nat :=
  let a := Arctan.atan 18 (q + g)
  let b := Arctan.atan 57 (q + g)
  let c := Arctan.atan 239 (q + g)
  let sum := a.1 * 48 + b.1 * 32 - c.1 * 20
  let off := 4 * (48 * (a.2 + 2) + 32 * (b.2 + 2) + 20 * (c.2 + 2))
  ((sum - off) / 2 ^ g, (sum + off) / 2 ^ g)
noncomputable def sp (q : Int) : Prop × List D := (0 ≤ q ∧ q ≤ 400000 ∧ (piTry q.toNat 64).1 = (piTry q.toNat 64).2, [.own tU32 .u32 (dg (piTry q.toNat 64).1)])
theorem L {q : Nat} (hq : q ≤ 400000) (h : (piTry q 64).1 = (piTry q 64).2) : L4 q 64 = some [D.own tU32 .u32 (dg (piTry q 64).1)] := by
  have b1 := Arctan.atan_lt 18 (q + 64)
  have b2 := Arctan.atan_lt 57 (q + 64)
  have b3 := Arctan.atan_lt 239 (q + 64)
  rw [L4_eq]
  have ew : IntKind.i64.wrap ((q : Int) + 64) = ((q + 64 : Nat) : Int) := by rw [wrap_i64 (by omega) (by omega)]; omega
  have k1 : Int.toNat 18 = 18 := rfl
  have k2 : Int.toNat 57 = 57 := rfl
  have k3 : Int.toNat 239 = 239 := rfl
  have k8 : Int.toNat 64 = 64 := rfl
  simp only [ew, Int.toNat_natCast, k1, k2, k3, k8, val_dg, Nat.add_zero]
  unfold piTry at h ⊢
  simp only at h ⊢
  generalize Arctan.atan 18 (q + 64) = A at *
  generalize Arctan.atan 57 (q + 64) = B at *
  generalize Arctan.atan 239 (q + 64) = C at *
  obtain ⟨a, i⟩ := A
  obtain ⟨b, j⟩ := B
  obtain ⟨c, k⟩ := C
  simp only at *
  have eo : IntKind.i64.wrap (4 * IntKind.i64.wrap (IntKind.i64.wrap (IntKind.i64.wrap (48 * IntKind.i64.wrap ((i : Int) + 2)) + IntKind.i64.wrap (32 * IntKind.i64.wrap ((j : Int) + 2))) + IntKind.i64.wrap (20 * IntKind.i64.wrap ((k : Int) + 2)))) = ((4 * (48 * (i + 2) + 32 * (j + 2) + 20 * (k + 2)) : Nat) : Int) := by
    rw [wrap_i64 (n := (i : Int) + 2) (by omega) (by omega), wrap_i64 (n := (j : Int) + 2) (by omega) (by omega), wrap_i64 (n := (k : Int) + 2) (by omega) (by omega), wrap_i64 (n := 48 * ((i : Int) + 2)) (by omega) (by omega), wrap_i64 (n := 32 * ((j : Int) + 2)) (by omega) (by omega), wrap_i64 (n := 20 * ((k : Int) + 2)) (by omega) (by omega), wrap_i64 (n := 48 * ((i : Int) + 2) + 32 * ((j : Int) + 2)) (by omega) (by omega), wrap_i64 (n := 48 * ((i : Int) + 2) + 32 * ((j : Int) + 2) + 20 * ((k : Int) + 2)) (by omega) (by omega), wrap_i64 (by omega) (by omega)]
    omega
  simp only [eo, Int.toNat_natCast]
  have hoff : 4 * (48 * (i + 2) + 32 * (j + 2) + 20 * (k + 2)) < 2 ^ 40 := by omega
  generalize 4 * (48 * (i + 2) + 32 * (j + 2) + 20 * (k + 2)) = off at *
  have bd : ∀ n : Nat, n < 2 ^ (2 * (q + 64) + 4 + 10) → (dg n).length ≤ 1000000 := fun n hn => by have := len_dg_bits hn; omega
  have hp : 2 ^ (2 * (q + 64) + 4 + 10) = 1024 * 2 ^ (2 * (q + 64) + 4) := by rw [Nat.pow_add]; omega
  have hp0 : 2 ^ 40 ≤ 2 ^ (2 * (q + 64) + 4) := Nat.pow_le_pow_right (by omega) (by omega)
  have q1 := bd a (by omega)
  have q2 := bd b (by omega)
  have q3 := bd c (by omega)
  have q4 := bd (a * 48) (by omega)
  have q5 := bd (b * 32) (by omega)
  have q6 := bd (c * 20) (by omega)
  have q7 := bd (a * 48 + b * 32) (by omega)
  have q8 := bd (a * 48 + b * 32 - c * 20) (by omega)
  have q9 := bd off (by omega)
  have q10 := bd (a * 48 + b * 32 - c * 20 - off) (by omega)
  have q11 := bd (a * 48 + b * 32 - c * 20 + off) (by omega)
  have q12 := bd ((a * 48 + b * 32 - c * 20 - off) / 2 ^ 64) (Nat.lt_of_le_of_lt (Nat.div_le_self _ _) (by omega))
  have q13 := bd ((a * 48 + b * 32 - c * 20 + off) / 2 ^ 64) (Nat.lt_of_le_of_lt (Nat.div_le_self _ _) (by omega))
  have ce : cmpN ((a * 48 + b * 32 - c * 20 - off) / 2 ^ 64) ((a * 48 + b * 32 - c * 20 + off) / 2 ^ 64) = 0 := by rw [h]; unfold cmpN; simp
  rw [gP (by
    repeat' apply And.intro
    all_goals first | exact nrm_dg _ | exact dig_dg _ | omega), gP (by
    repeat' apply And.intro
    all_goals first | exact nrm_dg _ | exact dig_dg _ | omega), gP (by
    repeat' apply And.intro
    all_goals first | exact nrm_dg _ | exact dig_dg _ | omega), gP (by
    repeat' apply And.intro
    all_goals first | exact nrm_dg _ | exact dig_dg _ | omega), gP (by
    repeat' apply And.intro
    all_goals first | exact nrm_dg _ | exact dig_dg _ | omega), gP (by
    repeat' apply And.intro
    all_goals first | exact nrm_dg _ | exact dig_dg _ | omega), gP (by
    repeat' apply And.intro
    all_goals first | exact nrm_dg _ | exact dig_dg _ | omega), gP (by
    repeat' apply And.intro
    all_goals first | exact nrm_dg _ | exact dig_dg _ | omega), gP (by
    repeat' apply And.intro
    all_goals first | exact nrm_dg _ | exact dig_dg _ | omega), gP (by
    repeat' apply And.intro
    all_goals first | exact nrm_dg _ | exact dig_dg _ | omega), gP (by
    repeat' apply And.intro
    all_goals first | exact nrm_dg _ | exact dig_dg _ | omega), gP (by
    repeat' apply And.intro
    all_goals first | exact nrm_dg _ | exact dig_dg _ | omega), gP (by
    repeat' apply And.intro
    all_goals first | exact nrm_dg _ | exact dig_dg _ | omega), gP (by
    repeat' apply And.intro
    all_goals first | exact nrm_dg _ | exact dig_dg _ | omega), bE_pos ce]
theorem spec (q : Int) (h : (sp q).1) : evalFn E Try.f12 cod [(pN .i64).put q] = some (sp q).2 := by
  obtain ⟨h1, h2, h3⟩ := h
  obtain ⟨q, rfl⟩ := Int.eq_ofNat_of_zero_le h1
  refine (start q).trans ?_
  rw [if_neg (by omega)]
  exact L (by omega) h3

noncomputable def orc : Orc := orc1 (pN .i64) sp
theorem fnok : FnOk Try.prog E 12 Try.f12 cod := fnOk ty_ok mixed (callsOk_of _ rfl (orcs_cons Arctan.ok (orcs_cons Sub.ok (orcs_cons Add.ok (orcs_cons MulSmall.ok (orcs_cons Small.ok (orcs_cons Shr.ok (orcs_cons Cmp.ok orcs_nil))))))) (ext_ok)) Try.func12 rfl rfl rfl
theorem ok : OrcOk Try.prog base.glob 12 orc := fnok.ok1 rfl spec
end PiFloor
end Go.Proofs.Ytnhebddoclhnnaa.W

/- gnomon/gnomonref16.PiFloor -/
namespace Go.Proofs.Ytnhebddoclhnnaa.W
open Go Go.Proofs.Ytnhebddoclhnnaa.AI Go.Proofs.Ytnhebddoclhnnaa.M
namespace PiFloor16
noncomputable def E : Env := { ({ base with C := callsOf [(12, PiFloor.orc)] }) with nt := 5, own := [4], keep := fun k => (tlook [] k).getD [], cut := tlook [] }
noncomputable def cod : Code := (Go.Proofs.Try.f7.body).getD .skip
theorem nok : namesOk E cod = true := by kernel_rfl
theorem start (a : Int) : evalFn E Go.Proofs.Try.f7 cod [D.s (S.sc (Value.int IntKind.i64 a))] = gif ((0 : Int) ≤ a ∧ a ≤ (400000 : Int) ∧ (((Arctan.atan (18 : Nat) (a.toNat + (64 : Nat))).fst * (48 : Nat) + (Arctan.atan (57 : Nat) (a.toNat + (64 : Nat))).fst * (32 : Nat) - (Arctan.atan (239 : Nat) (a.toNat + (64 : Nat))).fst * (20 : Nat) - (4 : Nat) * ((48 : Nat) * ((Arctan.atan (18 : Nat) (a.toNat + (64 : Nat))).snd + (2 : Nat)) + (32 : Nat) * ((Arctan.atan (57 : Nat) (a.toNat + (64 : Nat))).snd + (2 : Nat)) + (20 : Nat) * ((Arctan.atan (239 : Nat) (a.toNat + (64 : Nat))).snd + (2 : Nat)))) / (18446744073709551616 : Nat), ((Arctan.atan (18 : Nat) (a.toNat + (64 : Nat))).fst * (48 : Nat) + (Arctan.atan (57 : Nat) (a.toNat + (64 : Nat))).fst * (32 : Nat) - (Arctan.atan (239 : Nat) (a.toNat + (64 : Nat))).fst * (20 : Nat) + (4 : Nat) * ((48 : Nat) * ((Arctan.atan (18 : Nat) (a.toNat + (64 : Nat))).snd + (2 : Nat)) + (32 : Nat) * ((Arctan.atan (57 : Nat) (a.toNat + (64 : Nat))).snd + (2 : Nat)) + (20 : Nat) * ((Arctan.atan (239 : Nat) (a.toNat + (64 : Nat))).snd + (2 : Nat)))) / (18446744073709551616 : Nat)).fst = (((Arctan.atan (18 : Nat) (a.toNat + (64 : Nat))).fst * (48 : Nat) + (Arctan.atan (57 : Nat) (a.toNat + (64 : Nat))).fst * (32 : Nat) - (Arctan.atan (239 : Nat) (a.toNat + (64 : Nat))).fst * (20 : Nat) - (4 : Nat) * ((48 : Nat) * ((Arctan.atan (18 : Nat) (a.toNat + (64 : Nat))).snd + (2 : Nat)) + (32 : Nat) * ((Arctan.atan (57 : Nat) (a.toNat + (64 : Nat))).snd + (2 : Nat)) + (20 : Nat) * ((Arctan.atan (239 : Nat) (a.toNat + (64 : Nat))).snd + (2 : Nat)))) / (18446744073709551616 : Nat), ((Arctan.atan (18 : Nat) (a.toNat + (64 : Nat))).fst * (48 : Nat) + (Arctan.atan (57 : Nat) (a.toNat + (64 : Nat))).fst * (32 : Nat) - (Arctan.atan (239 : Nat) (a.toNat + (64 : Nat))).fst * (20 : Nat) + (4 : Nat) * ((48 : Nat) * ((Arctan.atan (18 : Nat) (a.toNat + (64 : Nat))).snd + (2 : Nat)) + (32 : Nat) * ((Arctan.atan (57 : Nat) (a.toNat + (64 : Nat))).snd + (2 : Nat)) + (20 : Nat) * ((Arctan.atan (239 : Nat) (a.toNat + (64 : Nat))).snd + (2 : Nat)))) / (18446744073709551616 : Nat)).snd) (some [D.own (42 : Nat) IntKind.u32 (dg (((Arctan.atan (18 : Nat) (a.toNat + (64 : Nat))).fst * (48 : Nat) + (Arctan.atan (57 : Nat) (a.toNat + (64 : Nat))).fst * (32 : Nat) - (Arctan.atan (239 : Nat) (a.toNat + (64 : Nat))).fst * (20 : Nat) - (4 : Nat) * ((48 : Nat) * ((Arctan.atan (18 : Nat) (a.toNat + (64 : Nat))).snd + (2 : Nat)) + (32 : Nat) * ((Arctan.atan (57 : Nat) (a.toNat + (64 : Nat))).snd + (2 : Nat)) + (20 : Nat) * ((Arctan.atan (239 : Nat) (a.toNat + (64 : Nat))).snd + (2 : Nat)))) / (18446744073709551616 : Nat), ((Arctan.atan (18 : Nat) (a.toNat + (64 : Nat))).fst * (48 : Nat) + (Arctan.atan (57 : Nat) (a.toNat + (64 : Nat))).fst * (32 : Nat) - (Arctan.atan (239 : Nat) (a.toNat + (64 : Nat))).fst * (20 : Nat) + (4 : Nat) * ((48 : Nat) * ((Arctan.atan (18 : Nat) (a.toNat + (64 : Nat))).snd + (2 : Nat)) + (32 : Nat) * ((Arctan.atan (57 : Nat) (a.toNat + (64 : Nat))).snd + (2 : Nat)) + (20 : Nat) * ((Arctan.atan (239 : Nat) (a.toNat + (64 : Nat))).snd + (2 : Nat)))) / (18446744073709551616 : Nat)).fst)]) := (evalFn_J rfl nok _).trans (by kernel_rfl)
-- stuck: 0
end PiFloor16
namespace PiFloor16
noncomputable def sp (q : Int) : Prop × List D := (0 ≤ q ∧ q ≤ 400000 ∧ (PiFloor.piTry q.toNat 64).1 = (PiFloor.piTry q.toNat 64).2, [.own tU32 .u32 (dg (PiFloor.piTry q.toNat 64).1)])
theorem spec (q : Int) (h : (sp q).1) : evalFn E Try.f7 cod [(pN .i64).put q] = some (sp q).2 :=
  (start q).trans (gP h)

noncomputable def orc : Orc := orc1 (pN .i64) sp
theorem fnok : FnOk Try.prog E 7 Try.f7 cod := fnOk ty_ok mixed (callsOk_of _ rfl (orcs_cons PiFloor.ok orcs_nil) (ext_ok)) Try.func7 rfl rfl rfl
theorem ok : OrcOk Try.prog base.glob 7 orc := fnok.ok1 rfl spec
end PiFloor16
end Go.Proofs.Ytnhebddoclhnnaa.W

/- gnomon/gnomonref01.Bits -/
namespace Go.Proofs.Ytnhebddoclhnnaa.W
open Go Go.Proofs.Ytnhebddoclhnnaa.AI Go.Proofs.Ytnhebddoclhnnaa.M
namespace Bits
noncomputable def E : Env := { (base) with nt := 25, own := [], keep := fun k => (tlook [(5, [3, 4])] k).getD [], cut := tlook [] }
noncomputable def cod : Code := (Go.Proofs.Try.f13.body).getD .skip
theorem nok : namesOk E cod = true := by kernel_rfl
noncomputable def L5 (x0 : Int) (x1 : Int) : Option (List D) := lpO E Go.Proofs.Try.f13 cod 5 [(A.v (V.one (L.s (S.sc (Value.int IntKind.i64 x0)))), none), (A.v (V.one (L.s (S.sc (Value.int IntKind.u32 x1)))), none)]
theorem start (a : List Int) : evalFn E Go.Proofs.Try.f13 cod [D.s (S.ints IntKind.u32 a)] = bcase ((↑a.length : Int) == (0 : Int)) (some [D.s (S.sc (Value.int IntKind.i64 (0 : Int)))]) (if (0 : Int) ≤ IntKind.i64.wrap ((↑a.length : Int) - (1 : Int)) ∧ IntKind.i64.wrap ((↑a.length : Int) - (1 : Int)) < (↑a.length : Int) then Bits.L5 (IntKind.i64.wrap ((32 : Int) * IntKind.i64.wrap ((↑a.length : Int) - (1 : Int)))) (a.getD (IntKind.i64.wrap ((↑a.length : Int) - (1 : Int))).toNat (0 : Int)) else none) := (evalFn_J rfl nok _).trans (by kernel_rfl)
theorem L5_eq (x0 : Int) (x1 : Int) : L5 x0 x1 = bcase (decide ((0 : Int) < x1)) (Bits.L5 (IntKind.i64.wrap (x0 + (1 : Int))) (IntKind.u32.wrap (x1.tdiv (2 : Int)))) (some [D.s (S.sc (Value.int IntKind.i64 x0))]) := (loopAt_J rfl nok 5 _).trans (by kernel_rfl)
-- stuck: 0
end Bits
namespace Bits
theorem L : ∀ (m : Nat) (x w : Int), 0 ≤ w → w < 2 ^ m → m ≤ 64 → w < 4294967296 → 0 ≤ x → x ≤ 4611686018427387904 - m → L5 x w = some [D.s (.sc (.int .i64 (x + (bl w.toNat : Nat))))] := by
  intro m
  induction m with
  | zero =>
    intro x w h0 h1 _ _ hx hx'
    have : w = 0 := by omega
    subst this
    rw [L5_eq, bD_neg (by omega)]
    simp [bl]
  | succ m ih =>
    intro x w h0 h1 hm hw hx hx'
    rw [L5_eq]
    by_cases hz : w = 0
    · subst hz
      rw [bD_neg (by omega)]
      simp [bl]
    · have hp : (2 : Int) ^ (m + 1) = 2 * 2 ^ m := by rw [Int.pow_succ]; omega
      rw [hp] at h1
      rw [bD_pos (by omega), Int.tdiv_eq_ediv_of_nonneg h0, wrap_u32n (by omega), wrap_i64 (by omega) (by omega), ih _ _ (by omega) (by omega) (by omega) (by omega) (by omega) (by omega), bl_half (n := w.toNat) (by omega), show (w / 2).toNat = w.toNat / 2 from by omega]
      congr 5
      omega

noncomputable def sp (a : List Int) : Prop × List D := (Nrm a ∧ a.length ≤ 4398046511104, [.s (.sc (.int .i64 (bl (val a) : Nat)))])
theorem spec (a : List Int) (h : (sp a).1) : evalFn E Try.f13 cod [(pI .u32).put a] = some (sp a).2 := by
  obtain ⟨ha, h1⟩ := h
  refine (start a).trans ?_
  show _ = some [D.s (.sc (.int .i64 (bl (val a) : Nat)))]
  by_cases hz : a.length = 0
  · rw [bE_pos (by omega), (len_zero ha).1 hz]
    rfl
  · have hd := ha.dig.get (a.length - 1)
    have hv := val_take_one (a := a) (a.length - 1)
    rw [show a.length - 1 + 1 = a.length from by omega, val_take_ge (Nat.le_refl _)] at hv
    have ht : a.getD (a.length - 1) 0 ≠ 0 := by
      have := getLast_take (a := a) (n := a.length - 1) (by omega)
      rw [show a.length - 1 + 1 = a.length from by omega, List.take_length] at this
      exact ha.top this
    have e : ((a.length : Int) - 1).toNat = a.length - 1 := by omega
    rw [bE_neg (by omega), wrap_i64 (n := (a.length : Int) - 1) (by omega) (by omega), if_pos (by omega), e, wrap_i64 (by omega) (by omega),
      L 32 _ _ hd.1 (by omega) (by omega) hd.2 (by omega) (by omega), hv, pow32, bl_add (by rw [← pow32]; exact val_take_lt ha.dig _) (by omega)]
    congr 5
    omega

noncomputable def orc : Orc := orc1 (pI .u32) sp
theorem fnok : FnOk Try.prog E 13 Try.f13 cod := fnOk ty_ok mixed (callsOk_of _ rfl orcs_nil (ext_ok)) Try.func13 rfl rfl rfl
theorem ok : OrcOk Try.prog base.glob 13 orc := fnok.ok1 rfl spec
end Bits
end Go.Proofs.Ytnhebddoclhnnaa.W

/- gnomon/gnomonref22.cut -/
namespace Go.Proofs.Ytnhebddoclhnnaa.W
open Go Go.Proofs.Ytnhebddoclhnnaa.AI Go.Proofs.Ytnhebddoclhnnaa.M
namespace Cut22
noncomputable def E : Env := { ({ base with C := callsOf [(13, Bits.orc), (15, Shr.orc), (14, Shl.orc)] }) with nt := 12, own := [11], keep := fun k => (tlook [] k).getD [], cut := tlook [] }
noncomputable def cod : Code := (Go.Proofs.Try.f8.body).getD .skip
theorem nok : namesOk E cod = true := by kernel_rfl
theorem start (a : List Int) : evalFn E Go.Proofs.Try.f8 cod [D.s (S.ints IntKind.u32 a)] = gif (Nrm a ∧ a.length ≤ (4398046511104 : Nat)) (gif (Dig a ∧ a.length ≤ (1099511627776 : Nat) ∧ IntKind.i64.wrap ((↑(bl (val a)) : Int) - (33 : Int)) < (9223372036854775808 : Int)) (gif (Nrm (dg (val a / (2 : Nat) ^ (IntKind.i64.wrap ((↑(bl (val a)) : Int) - (33 : Int))).toNat)) ∧ (dg (val a / (2 : Nat) ^ (IntKind.i64.wrap ((↑(bl (val a)) : Int) - (33 : Int))).toNat)).length ≤ (1099511627776 : Nat) ∧ IntKind.i64.wrap ((↑(bl (val a)) : Int) - (33 : Int)) ≤ (1099511627776 : Int)) (some [D.own (42 : Nat) IntKind.u32 (dg (val (dg (val a / (2 : Nat) ^ (IntKind.i64.wrap ((↑(bl (val a)) : Int) - (33 : Int))).toNat)) * (2 : Nat) ^ (IntKind.i64.wrap ((↑(bl (val a)) : Int) - (33 : Int))).toNat))]))) := (evalFn_J rfl nok _).trans (by kernel_rfl)
-- stuck: 0
end Cut22
namespace Cut22
/-- All but the 33 highest bits made nought. -/
def cutN (n : Nat) : Nat := n / 2 ^ (bl n - 33) * 2 ^ (bl n - 33)
theorem cutN_le (n : Nat) : cutN n ≤ n := Nat.div_mul_le_self _ _
noncomputable def sp (a : List Int) : Prop × List D := (Nrm a ∧ a.length ≤ 1048576, [.own tU32 .u32 (dg (cutN (val a)))])
theorem spec (a : List Int) (h : (sp a).1) : evalFn E Try.f8 cod [(pI .u32).put a] = some (sp a).2 := by
  obtain ⟨ha, hl⟩ := h
  refine (start a).trans ?_
  have l1 := len_dg_div (val a) (2 ^ (bl (val a) - 33))
  rw [nrm_len ha] at l1
  have hb1 : bl (val a) ≤ 32 * 1048576 := bl_len ha.dig (by omega)
  have et : ((bl (val a) : Int) - 33).toNat = bl (val a) - 33 := by omega
  rw [gP ⟨ha, by omega⟩, wrap_i64 (by omega) (by omega), et, gP ⟨ha.dig, by omega, by omega⟩, gP ⟨nrm_dg _, by omega, by omega⟩, val_dg]
  rfl

noncomputable def orc : Orc := orc1 (pI .u32) sp
theorem fnok : FnOk Try.prog E 8 Try.f8 cod := fnOk ty_ok mixed (callsOk_of _ rfl (orcs_cons Bits.ok (orcs_cons Shr.ok (orcs_cons Shl.ok orcs_nil))) (ext_ok)) Try.func8 rfl rfl rfl
theorem ok : OrcOk Try.prog base.glob 8 orc := fnok.ok1 rfl spec
end Cut22
end Go.Proofs.Ytnhebddoclhnnaa.W

/- gnomon/gnomonref07.Of -/
namespace Go.Proofs.Ytnhebddoclhnnaa.W
open Go Go.Proofs.Ytnhebddoclhnnaa.AI Go.Proofs.Ytnhebddoclhnnaa.M
namespace Of7
noncomputable def E : Env := { (base) with nt := 12, own := [], keep := fun k => (tlook [] k).getD [], cut := tlook [] }
noncomputable def cod : Code := (Go.Proofs.Try.f30.body).getD .skip
theorem nok : namesOk E cod = true := by kernel_rfl
theorem start (a : Int) : evalFn E Go.Proofs.Try.f30 cod [D.s (S.sc (Value.int IntKind.i64 a))] = bcase (a == (32 : Int)) (some [D.agg [S.sc (Value.int IntKind.u64 (2147483648 : Int)), S.sc (Value.int IntKind.i64 (24 : Int)), S.sc (Value.int IntKind.i64 (-149 : Int)), S.sc (Value.int IntKind.i64 (104 : Int)), S.sc (Value.int IntKind.u64 (2139095040 : Int)), S.sc (Value.int IntKind.u64 (2143289345 : Int))], D.s (S.sc (Value.bool true))]) (bcase (a == (64 : Int)) (some [D.agg [S.sc (Value.int IntKind.u64 (9223372036854775808 : Int)), S.sc (Value.int IntKind.i64 (53 : Int)), S.sc (Value.int IntKind.i64 (-1074 : Int)), S.sc (Value.int IntKind.i64 (971 : Int)), S.sc (Value.int IntKind.u64 (9218868437227405312 : Int)), S.sc (Value.int IntKind.u64 (9221120237041090561 : Int))], D.s (S.sc (Value.bool true))]) (some [D.agg [S.sc (Value.int IntKind.u64 (0 : Int)), S.sc (Value.int IntKind.i64 (0 : Int)), S.sc (Value.int IntKind.i64 (0 : Int)), S.sc (Value.int IntKind.i64 (0 : Int)), S.sc (Value.int IntKind.u64 (0 : Int)), S.sc (Value.int IntKind.u64 (0 : Int))], D.s (S.sc (Value.bool false))])) := (evalFn_J rfl nok _).trans (by kernel_rfl)
-- stuck: 0
end Of7
namespace Of7
def fS (f : Int) : Int := if f = 32 then 2147483648 else if f = 64 then 9223372036854775808 else 0
def fP (f : Int) : Int := if f = 32 then 24 else if f = 64 then 53 else 0
def fE (f : Int) : Int := if f = 32 then -149 else if f = 64 then -1074 else 0
def fG (f : Int) : Int := if f = 32 then 104 else if f = 64 then 971 else 0
def fI (f : Int) : Int := if f = 32 then 2139095040 else if f = 64 then 9218868437227405312 else 0
def fQ (f : Int) : Int := if f = 32 then 2143289345 else if f = 64 then 9221120237041090561 else 0
noncomputable def sp (f : Int) : Prop × List D := (True, [.agg [.sc (.int .u64 (fS f)), .sc (.int .i64 (fP f)), .sc (.int .i64 (fE f)), .sc (.int .i64 (fG f)), .sc (.int .u64 (fI f)), .sc (.int .u64 (fQ f))], .s (.sc (.bool (f == 32 || f == 64)))])
theorem spec (f : Int) (_ : (sp f).1) : evalFn E Try.f30 cod [(pN .i64).put f] = some (sp f).2 := by
  refine (start f).trans ?_
  by_cases h1 : f = 32
  · subst h1; rfl
  · by_cases h2 : f = 64
    · subst h2; rfl
    · rw [bE_neg h1, bE_neg h2]
      simp [sp, fS, fP, fE, fG, fI, fQ, h1, h2]

noncomputable def orc : Orc := orc1 (pN .i64) sp
theorem fnok : FnOk Try.prog E 30 Try.f30 cod := fnOk ty_ok mixed (callsOk_of _ rfl orcs_nil (ext_ok)) Try.func30 rfl rfl rfl
theorem ok : OrcOk Try.prog base.glob 30 orc := fnok.ok1 rfl spec
end Of7
end Go.Proofs.Ytnhebddoclhnnaa.W

/- gnomon/gnomonref19.double -/
namespace Go.Proofs.Ytnhebddoclhnnaa.W
open Go Go.Proofs.Ytnhebddoclhnnaa.AI Go.Proofs.Ytnhebddoclhnnaa.M
namespace Double19
noncomputable def E : Env := { ({ base with C := callsOf [(30, Of7.orc)] }) with nt := 8, own := [], keep := fun k => (tlook [] k).getD [], cut := tlook [] }
noncomputable def cod : Code := (Go.Proofs.Try.f20.body).getD .skip
theorem nok : namesOk E cod = true := by kernel_rfl
theorem start : evalFn E Go.Proofs.Try.f20 cod [] = gif True (some [D.agg [S.sc (Value.int IntKind.u64 (9223372036854775808 : Int)), S.sc (Value.int IntKind.i64 (53 : Int)), S.sc (Value.int IntKind.i64 (-1074 : Int)), S.sc (Value.int IntKind.i64 (971 : Int)), S.sc (Value.int IntKind.u64 (9218868437227405312 : Int)), S.sc (Value.int IntKind.u64 (9221120237041090561 : Int))]]) := (evalFn_J rfl nok _).trans (by kernel_rfl)
-- stuck: 0
end Double19
namespace Double19
noncomputable def sp : Prop × List D := (True, [.agg [.sc (.int .u64 (kf true).1), .sc (.int .i64 (kf true).2.1), .sc (.int .i64 (kf true).2.2.1), .sc (.int .i64 (kf true).2.2.2.1), .sc (.int .u64 (kf true).2.2.2.2.1), .sc (.int .u64 (kf true).2.2.2.2.2)]])
theorem spec (_ : sp.1) : evalFn E Try.f20 cod [] = some sp.2 := by
  refine start.trans ?_
  first | rfl | (rw [gP trivial]; rfl)

noncomputable def orc : Orc := orc0  sp
theorem fnok : FnOk Try.prog E 20 Try.f20 cod := fnOk ty_ok mixed (callsOk_of _ rfl (orcs_cons Of7.ok orcs_nil) (ext_ok)) Try.func20 rfl rfl rfl
theorem ok : OrcOk Try.prog base.glob 20 orc := fnok.ok0 spec
end Double19
end Go.Proofs.Ytnhebddoclhnnaa.W

/- gnomon/gnomonref07.Parts -/
namespace Go.Proofs.Ytnhebddoclhnnaa.W
open Go Go.Proofs.Ytnhebddoclhnnaa.AI Go.Proofs.Ytnhebddoclhnnaa.M
namespace Parts7
noncomputable def E : Env := { (base) with nt := 33, own := [], keep := fun k => (tlook [] k).getD [], cut := tlook [] }
noncomputable def cod : Code := (Go.Proofs.Try.f34.body).getD .skip
theorem nok : namesOk E cod = true := by kernel_rfl
theorem start (a1 : Int) (a2 : Int) (a3 : Int) (a4 : Int) (a5 : Int) (a6 : Int) (b : Int) : evalFn E Go.Proofs.Try.f34 cod [D.agg [S.sc (Value.int IntKind.u64 a1), S.sc (Value.int IntKind.i64 a2), S.sc (Value.int IntKind.i64 a3), S.sc (Value.int IntKind.i64 a4), S.sc (Value.int IntKind.u64 a5), S.sc (Value.int IntKind.u64 a6)], D.s (S.sc (Value.int IntKind.u64 b))] = if IntKind.i64.wrap (a2 - (1 : Int)) < (0 : Int) then none else if IntKind.u64.wrap ((1 : Int) * (↑((2 : Nat) ^ min (IntKind.i64.wrap (a2 - (1 : Int))).toNat (64 : Nat)) : Int)) = (0 : Int) then none else if IntKind.u64.wrap ((1 : Int) * (↑((2 : Nat) ^ min (IntKind.i64.wrap (a2 - (1 : Int))).toNat (64 : Nat)) : Int)) = (0 : Int) then none else bcase (IntKind.u64.wrap (b.tdiv (IntKind.u64.wrap ((1 : Int) * (↑((2 : Nat) ^ min (IntKind.i64.wrap (a2 - (1 : Int))).toNat (64 : Nat)) : Int)))) == (0 : Int)) (some [D.s (S.sc (Value.int IntKind.u64 (b.tmod (IntKind.u64.wrap ((1 : Int) * (↑((2 : Nat) ^ min (IntKind.i64.wrap (a2 - (1 : Int))).toNat (64 : Nat)) : Int)))))), D.s (S.sc (Value.int IntKind.i64 a3))]) (some [D.s (S.sc (Value.int IntKind.u64 (IntKind.u64.wrap (IntKind.u64.wrap ((1 : Int) * (↑((2 : Nat) ^ min (IntKind.i64.wrap (a2 - (1 : Int))).toNat (64 : Nat)) : Int)) + b.tmod (IntKind.u64.wrap ((1 : Int) * (↑((2 : Nat) ^ min (IntKind.i64.wrap (a2 - (1 : Int))).toNat (64 : Nat)) : Int))))))), D.s (S.sc (Value.int IntKind.i64 (IntKind.i64.wrap (IntKind.i64.wrap (a3 + IntKind.i64.wrap (IntKind.u64.wrap (b.tdiv (IntKind.u64.wrap ((1 : Int) * (↑((2 : Nat) ^ min (IntKind.i64.wrap (a2 - (1 : Int))).toNat (64 : Nat)) : Int)))))) - (1 : Int)))))]) := (evalFn_J rfl nok _).trans (by kernel_rfl)
-- stuck: 0
end Parts7
namespace Parts7
noncomputable def sp (k : K6) (b : Int) : Prop × List D := (IsK k ∧ 0 ≤ b ∧ b < 9223372036854775808, [.s (.sc (.int .u64 (partM k b.toNat : Nat))), .s (.sc (.int .i64 (kE k + (partX k b.toNat : Nat))))])
theorem kH_t : kH (kf true) = 4503599627370496 := by kernel_rfl
theorem kH_f : kH (kf false) = 8388608 := by kernel_rfl
theorem w_t : IntKind.u64.wrap (1 * ((2 ^ min (IntKind.i64.wrap ((kf true).2.1 - 1)).toNat 64 : Nat) : Int)) = 4503599627370496 := by kernel_rfl
theorem w_f : IntKind.u64.wrap (1 * ((2 ^ min (IntKind.i64.wrap ((kf false).2.1 - 1)).toNat 64 : Nat) : Int)) = 8388608 := by kernel_rfl
theorem n_t : ¬ IntKind.i64.wrap ((kf true).2.1 - 1) < 0 := by rw [wrap_i64 (by simp [kf]) (by simp [kf])]; simp [kf]
theorem n_f : ¬ IntKind.i64.wrap ((kf false).2.1 - 1) < 0 := by rw [wrap_i64 (by simp [kf]) (by simp [kf])]; simp [kf]
theorem gen {k : K6} {h : Nat} (hh : kH k = h) (h1 : 1 < h) (h2 : h < 9007199254740992) (hE : -1074 ≤ kE k ∧ kE k ≤ 0) (b : Int) (hb : 0 ≤ b) (hb' : b < 9223372036854775808) (hn : ¬ IntKind.i64.wrap (k.2.1 - 1) < 0) (hw : IntKind.u64.wrap (1 * ((2 ^ min (IntKind.i64.wrap (k.2.1 - 1)).toNat 64 : Nat) : Int)) = (h : Int)) :
    evalFn E Try.f34 cod [(pG (.pair (sN .u64) (.pair (sN .i64) (.pair (sN .i64) (.pair (sN .i64) (.pair (sN .u64) (sN .u64))))))).put k, (pN .u64).put b] = some (sp k b).2 := by
  refine (start k.1 k.2.1 k.2.2.1 k.2.2.2.1 k.2.2.2.2.1 k.2.2.2.2.2 b).trans ?_
  obtain ⟨n, rfl⟩ := Int.eq_ofNat_of_zero_le hb
  have hq : n / h ≤ n := Nat.div_le_self _ _
  have hm : n % h < h := Nat.mod_lt _ (by omega)
  have hq2 : n / h < 4611686018427387904 := by
    apply Nat.div_lt_of_lt_mul
    have : 2 * 4611686018427387904 ≤ h * 4611686018427387904 := Nat.mul_le_mul_right _ (by omega)
    omega
  have e1 : ((n : Int)).tdiv (h : Int) = ((n / h : Nat) : Int) := by rw [Int.tdiv_eq_ediv_of_nonneg hb, Int.natCast_ediv]
  have e2 : ((n : Int)).tmod (h : Int) = ((n % h : Nat) : Int) := by rw [Int.tmod_eq_emod_of_nonneg hb, Int.natCast_emod]
  have hE' : k.2.2.1 = kE k := rfl
  rw [if_neg hn, hw, if_neg (by omega), if_neg (by omega), e1, e2, hE']
  clear e1 e2 hw hn
  unfold sp partM partX
  simp only [hh, Int.toNat_natCast]
  have hz' : n / h = 0 → n % h = n := fun hz => Nat.mod_eq_of_lt ((Nat.div_eq_zero_iff_lt (by omega)).1 hz)
  generalize n / h = q at *
  generalize n % h = r at *
  rw [wrap_u64 (n := (q : Int)) (by omega) (by omega)]
  by_cases hz : q = 0
  · rw [bE_pos (by omega), if_pos hz, hz, hz' hz]
    simp
  · rw [bE_neg (by omega), if_neg hz, wrap_u64 (n := (h : Int) + (r : Int)) (by omega) (by omega), wrap_i64 (n := (q : Int)) (by omega) (by omega), wrap_i64 (n := kE k + (q : Int)) (by omega) (by omega), wrap_i64 (by omega) (by omega)]
    rw [show kE k + (q : Int) - 1 = kE k + ((q - 1 : Nat) : Int) from by omega, Int.natCast_add]
theorem spec (k : K6) (b : Int) (h : (sp k b).1) : evalFn E Try.f34 cod [(pG (.pair (sN .u64) (.pair (sN .i64) (.pair (sN .i64) (.pair (sN .i64) (.pair (sN .u64) (sN .u64))))))).put k, (pN .u64).put b] = some (sp k b).2 := by
  obtain ⟨hk, hb, hb'⟩ := h
  rcases hk with rfl | rfl
  · exact gen kH_t (by omega) (by omega) (by simp [kE, kf]) b hb hb' n_t w_t
  · exact gen kH_f (by omega) (by omega) (by simp [kE, kf]) b hb hb' n_f w_f

noncomputable def orc : Orc := orc2 (pG (.pair (sN .u64) (.pair (sN .i64) (.pair (sN .i64) (.pair (sN .i64) (.pair (sN .u64) (sN .u64))))))) (pN .u64) sp
theorem fnok : FnOk Try.prog E 34 Try.f34 cod := fnOk ty_ok mixed (callsOk_of _ rfl orcs_nil (ext_ok)) Try.func34 rfl rfl rfl
theorem ok : OrcOk Try.prog base.glob 34 orc := fnok.ok2 rfl spec
end Parts7
end Go.Proofs.Ytnhebddoclhnnaa.W

/- gnomon/gnomonref01.To -/
namespace Go.Proofs.Ytnhebddoclhnnaa.W
open Go Go.Proofs.Ytnhebddoclhnnaa.AI Go.Proofs.Ytnhebddoclhnnaa.M
namespace To
noncomputable def E : Env := { ({ base with C := callsOf [(18, Norm.orc)] }) with nt := 44, own := [], keep := fun k => (tlook [(4, [3, 4, 5])] k).getD [], cut := tlook [] }
noncomputable def cod : Code := (Go.Proofs.Try.f39.body).getD .skip
theorem nok : namesOk E cod = true := by kernel_rfl
noncomputable def L4 (xs0 : List Int) (m1 : Nat) (xs2 : List Int) (x3 : Int) : Option (List D) := lpO E Go.Proofs.Try.f39 cod 4 [(A.v (V.one (L.s (S.ints IntKind.u32 xs0))), none), (A.v (V.one (L.buf (1 : Nat) m1)), some { e := (25 : Nat), cont := Cont.ints IntKind.u64 xs2 }), (A.v (V.one (L.s (S.sc (Value.int IntKind.i64 x3)))), none)]
theorem start (a : List Int) : evalFn E Go.Proofs.Try.f39 cod [D.s (S.ints IntKind.u32 a)] = gif (Dig a ∧ a.length ≤ (4398046511104 : Nat)) (if (0 : Int) ≤ (0 : Int) ∧ (0 : Int) ≤ IntKind.i64.wrap (IntKind.i64.wrap ((↑(dg (val a)).length : Int).tdiv (2 : Int)) + (1 : Int)) ∧ IntKind.i64.wrap (IntKind.i64.wrap ((↑(dg (val a)).length : Int).tdiv (2 : Int)) + (1 : Int)) ≤ (8796093022208 : Int) then To.L4 (dg (val a)) (0 : Nat) (List.replicate (0 : Nat) (0 : Int)) (0 : Int) else none) := (evalFn_J rfl nok _).trans (by kernel_rfl)
theorem L4_eq (xs0 : List Int) (m1 : Nat) (xs2 : List Int) (x3 : Int) : L4 xs0 m1 xs2 x3 = bcase (decide (x3 < (↑xs0.length : Int))) (if (0 : Int) ≤ x3 ∧ x3 < (↑xs0.length : Int) then bcase (decide (IntKind.i64.wrap (x3 + (1 : Int)) < (↑xs0.length : Int))) (if (0 : Int) ≤ IntKind.i64.wrap (x3 + (1 : Int)) ∧ IntKind.i64.wrap (x3 + (1 : Int)) < (↑xs0.length : Int) then if (0 : Nat) < [IntKind.u64.wrap (IntKind.u64.wrap (xs0.getD x3.toNat (0 : Int)) + IntKind.u64.wrap (IntKind.u64.wrap (xs0.getD (IntKind.i64.wrap (x3 + (1 : Int))).toNat (0 : Int)) * (4294967296 : Int)))].length ∧ (↑(xs2.length + [IntKind.u64.wrap (IntKind.u64.wrap (xs0.getD x3.toNat (0 : Int)) + IntKind.u64.wrap (IntKind.u64.wrap (xs0.getD (IntKind.i64.wrap (x3 + (1 : Int))).toNat (0 : Int)) * (4294967296 : Int)))].length) : Int) ≤ (8796093022208 : Int) then To.L4 xs0 (xs2.length + [IntKind.u64.wrap (IntKind.u64.wrap (xs0.getD x3.toNat (0 : Int)) + IntKind.u64.wrap (IntKind.u64.wrap (xs0.getD (IntKind.i64.wrap (x3 + (1 : Int))).toNat (0 : Int)) * (4294967296 : Int)))].length) (xs2 ++ [IntKind.u64.wrap (IntKind.u64.wrap (xs0.getD x3.toNat (0 : Int)) + IntKind.u64.wrap (IntKind.u64.wrap (xs0.getD (IntKind.i64.wrap (x3 + (1 : Int))).toNat (0 : Int)) * (4294967296 : Int)))]) (IntKind.i64.wrap (x3 + (2 : Int))) else none else none) (if (0 : Nat) < [IntKind.u64.wrap (xs0.getD x3.toNat (0 : Int))].length ∧ (↑(xs2.length + [IntKind.u64.wrap (xs0.getD x3.toNat (0 : Int))].length) : Int) ≤ (8796093022208 : Int) then To.L4 xs0 (xs2.length + [IntKind.u64.wrap (xs0.getD x3.toNat (0 : Int))].length) (xs2 ++ [IntKind.u64.wrap (xs0.getD x3.toNat (0 : Int))]) (IntKind.i64.wrap (x3 + (2 : Int))) else none) else none) (some [D.own (25 : Nat) IntKind.u64 xs2]) := (loopAt_J rfl nok 4 _).trans (by kernel_rfl)
-- stuck: 0
end To
namespace To
theorem L {d : List Int} (hd : Nrm d) (hl : d.length ≤ 4398046511104) : ∀ (k i : Nat) (xs : List Int), i + k ≥ d.length → i ≤ d.length + 1 → xs.length ≤ i →
    L4 d xs.length xs i = some [D.own tU64 .u64 (xs ++ M6.dg (val (d.drop i)))] := by
  intro k
  induction k using Nat.strongRecOn with
  | _ k ih =>
    intro i xs hk hi hxl
    rw [L4_eq]
    by_cases h : i < d.length
    · have g0 := hd.dig.get i
      have g1 := hd.dig.get (i + 1)
      have e' : ((i : Int)).toNat = i := Int.toNat_natCast i
      have e1 : ((i : Int) + 1).toNat = i + 1 := by omega
      have hz : val (d.drop i) ≠ 0 := by
        intro h0
        have hn : Nrm (d.drop i) := nrm_of (hd.dig.drop i) fun e he => hd.top (by
          rw [List.getLast?_drop] at he
          rw [if_neg (by omega)] at he
          exact he)
        have := (len_zero hn).2 h0
        rw [List.length_drop] at this
        omega
      have ev := val_drop_one (a := d) i
      have ev1 : val (d.drop (i + 1)) = (d.getD (i + 1) 0).toNat + 4294967296 * val (d.drop (i + 2)) := val_drop_one (i + 1)
      have key : M6.dg (val (d.drop i)) = (d.getD i 0 + d.getD (i + 1) 0 * 4294967296) :: M6.dg (val (d.drop (i + 2))) := by
        rw [M6.dg_pos hz]
        congr 1
        · omega
        · congr 1; omega
      rw [bD_pos (by omega), if_pos (by omega), e', wrap_i64 (n := (i : Int) + 1) (by omega) (by omega), wrap_i64 (n := (i : Int) + 2) (by omega) (by omega), e1, wrap_u64 (n := d.getD i 0) (by omega) (by omega), wrap_u64 (n := d.getD (i + 1) 0) (by omega) (by omega),
        wrap_u64 (n := d.getD (i + 1) 0 * 4294967296) (by omega) (by omega), wrap_u64 (by omega) (by omega)]
      by_cases h1 : i + 1 < d.length
      · rw [bD_pos (by omega), if_pos (by omega), if_pos ⟨by simp, by simp; omega⟩]
        have := ih (k - 2) (by omega) (i + 2) (xs ++ [d.getD i 0 + d.getD (i + 1) 0 * 4294967296]) (by omega) (by omega) (by simp; omega)
        simp only [List.length_append, List.length_cons, List.length_nil] at this ⊢
        rw [show ((i : Int) + 2) = ((i + 2 : Nat) : Int) from by omega, this, key, List.append_assoc]
        rfl
      · have hd1 : d.getD (i + 1) 0 = 0 := getD_none (by omega)
        rw [bD_neg (by omega), if_pos ⟨by simp, by simp; omega⟩]
        have := ih (k - 1) (by omega) (i + 2) (xs ++ [d.getD i 0]) (by omega) (by omega) (by simp; omega)
        simp only [List.length_append, List.length_cons, List.length_nil] at this ⊢
        rw [show ((i : Int) + 2) = ((i + 2 : Nat) : Int) from by omega, this, key, hd1, Int.zero_mul, Int.add_zero, List.append_assoc]
        rfl
    · rw [bD_neg (by omega), List.drop_eq_nil_of_le (by omega)]
      simp [val, M6.dg_zero]

noncomputable def sp (a : List Int) : Prop × List D := (Dig a ∧ a.length ≤ 1099511627776, [.own tU64 .u64 (M6.dg (val a))])
theorem spec (a : List Int) (h : (sp a).1) : evalFn E Try.f39 cod [(pI .u32).put a] = some (sp a).2 := by
  obtain ⟨ha, h1⟩ := h
  refine (start a).trans ?_
  have := len_val ha
  rw [gP ⟨ha, by omega⟩, Int.tdiv_eq_ediv_of_nonneg (by omega), wrap_i64 (n := ((dg (val a)).length : Int) / 2) (by omega) (by omega), wrap_i64 (by omega) (by omega), if_pos ⟨by omega, by omega, by omega⟩]
  have := L (nrm_dg (val a)) (by omega) (dg (val a)).length 0 [] (by omega) (by omega) (by simp)
  simp only [List.length_nil, List.drop_zero, List.nil_append, val_dg] at this
  exact this

noncomputable def orc : Orc := orc1 (pI .u32) sp
theorem fnok : FnOk Try.prog E 39 Try.f39 cod := fnOk ty_ok mixed (callsOk_of _ rfl (orcs_cons Norm.ok orcs_nil) (ext_ok)) Try.func39 rfl rfl rfl
theorem ok : OrcOk Try.prog base.glob 39 orc := fnok.ok1 rfl spec
end To
end Go.Proofs.Ytnhebddoclhnnaa.W

/- gnomon/gnomonref01.Fits -/
namespace Go.Proofs.Ytnhebddoclhnnaa.W
open Go Go.Proofs.Ytnhebddoclhnnaa.AI Go.Proofs.Ytnhebddoclhnnaa.M
namespace Fits
noncomputable def E : Env := { ({ base with C := callsOf [(39, To.orc)] }) with nt := 16, own := [], keep := fun k => (tlook [] k).getD [], cut := tlook [] }
noncomputable def cod : Code := (Go.Proofs.Try.f32.body).getD .skip
theorem nok : namesOk E cod = true := by kernel_rfl
theorem start (a : List Int) : evalFn E Go.Proofs.Try.f32 cod [D.s (S.ints IntKind.u32 a)] = gif (Dig a ∧ a.length ≤ (1099511627776 : Nat)) (bcase ((↑(M6.dg (val a)).length : Int) == (0 : Int)) (some [D.s (S.sc (Value.int IntKind.u64 (0 : Int))), D.s (S.sc (Value.bool true))]) (bcase ((↑(M6.dg (val a)).length : Int) == (1 : Int)) (if (0 : Int) ≤ (0 : Int) ∧ (0 : Int) < (↑(M6.dg (val a)).length : Int) then some [D.s (S.sc (Value.int IntKind.u64 ((M6.dg (val a)).getD (0 : Nat) (0 : Int)))), D.s (S.sc (Value.bool true))] else none) (some [D.s (S.sc (Value.int IntKind.u64 (0 : Int))), D.s (S.sc (Value.bool false))]))) := (evalFn_J rfl nok _).trans (by kernel_rfl)
-- stuck: 0
end Fits
namespace Fits
noncomputable def sp (a : List Int) : Prop × List D := (Dig a ∧ a.length ≤ 1099511627776, [.s (.sc (.int .u64 ((if val a < 18446744073709551616 then val a else 0 : Nat) : Int))), .s (.sc (.bool (decide (val a < 18446744073709551616))))])
theorem spec (a : List Int) (h : (sp a).1) : evalFn E Try.f32 cod [(pI .u32).put a] = some (sp a).2 := by
  refine (start a).trans ?_
  refine (gP h).trans ?_
  unfold sp
  simp only
  by_cases h0 : val a = 0
  · rw [h0, M6.dg_zero]; rfl
  · by_cases h1 : val a < 18446744073709551616
    · rw [if_pos h1, decide_eq_true h1, M6.dg_pos h0, Nat.mod_eq_of_lt h1, Nat.div_eq_of_lt h1, M6.dg_zero]
      rfl
    · rw [if_neg h1, decide_eq_false h1]
      have hl : 1 < (M6.dg (val a)).length := by
        rw [M6.dg_pos h0, List.length_cons]
        have : (M6.dg (val a / 18446744073709551616)).length ≠ 0 := fun hh => by have := M6.dg_len_zero.1 hh; omega
        omega
      rw [bE_neg (by omega), bE_neg (by omega)]
      rfl

noncomputable def orc : Orc := orc1 (pI .u32) sp
theorem fnok : FnOk Try.prog E 32 Try.f32 cod := fnOk ty_ok mixed (callsOk_of _ rfl (orcs_cons To.ok orcs_nil) (ext_ok)) Try.func32 rfl rfl rfl
theorem ok : OrcOk Try.prog base.glob 32 orc := fnok.ok1 rfl spec
end Fits
end Go.Proofs.Ytnhebddoclhnnaa.W

/- gnomon/gnomonref07.Size -/
namespace Go.Proofs.Ytnhebddoclhnnaa.W
open Go Go.Proofs.Ytnhebddoclhnnaa.AI Go.Proofs.Ytnhebddoclhnnaa.M
namespace Size7
noncomputable def E : Env := { ({ base with C := callsOf [(13, Bits.orc), (32, Fits.orc), (15, Shr.orc)] }) with nt := 43, own := [18], keep := fun k => (tlook [] k).getD [], cut := tlook [] }
noncomputable def cod : Code := (Go.Proofs.Try.f26.body).getD .skip
theorem nok : namesOk E cod = true := by kernel_rfl
theorem start (a1 : Int) (a2 : Int) (a3 : Int) (a4 : Int) (a5 : Int) (a6 : Int) (b : List Int) : evalFn E Go.Proofs.Try.f26 cod [D.agg [S.sc (Value.int IntKind.u64 a1), S.sc (Value.int IntKind.i64 a2), S.sc (Value.int IntKind.i64 a3), S.sc (Value.int IntKind.i64 a4), S.sc (Value.int IntKind.u64 a5), S.sc (Value.int IntKind.u64 a6)], D.s (S.ints IntKind.u32 b)] = gif (Nrm b ∧ b.length ≤ (4398046511104 : Nat)) (bcase (decide ((↑(bl (val b)) : Int) < a2)) (gif (Dig b ∧ b.length ≤ (1099511627776 : Nat)) (some [D.s (S.sc (Value.int IntKind.u64 (↑(if val b < (18446744073709551616 : Nat) then val b else (0 : Nat)) : Int)))])) (gif (Dig b ∧ b.length ≤ (1099511627776 : Nat) ∧ IntKind.i64.wrap ((↑(bl (val b)) : Int) - a2) < (9223372036854775808 : Int)) (gif (Dig (dg (val b / (2 : Nat) ^ (IntKind.i64.wrap ((↑(bl (val b)) : Int) - a2)).toNat)) ∧ (dg (val b / (2 : Nat) ^ (IntKind.i64.wrap ((↑(bl (val b)) : Int) - a2)).toNat)).length ≤ (1099511627776 : Nat)) (if IntKind.i64.wrap (a2 - (1 : Int)) < (0 : Int) then none else some [D.s (S.sc (Value.int IntKind.u64 (IntKind.u64.wrap (IntKind.u64.wrap (IntKind.u64.wrap (IntKind.i64.wrap ((↑(bl (val b)) : Int) - a2)) * (↑((2 : Nat) ^ min (IntKind.i64.wrap (a2 - (1 : Int))).toNat (64 : Nat)) : Int)) + (↑(if val (dg (val b / (2 : Nat) ^ (IntKind.i64.wrap ((↑(bl (val b)) : Int) - a2)).toNat)) < (18446744073709551616 : Nat) then val (dg (val b / (2 : Nat) ^ (IntKind.i64.wrap ((↑(bl (val b)) : Int) - a2)).toNat)) else (0 : Nat)) : Int)))))])))) := (evalFn_J rfl nok _).trans (by kernel_rfl)
-- stuck: 0
end Size7
namespace Size7
noncomputable def sp (k : K6) (b : List Int) : Prop × List D := (IsK k ∧ Nrm b ∧ bl (val b) ≤ 2200, [.s (.sc (.int .u64 (sizeN k (val b) : Nat)))])
theorem gen {k : K6} {h : Nat} (p : Nat) (hh : kH k = h) (hp2 : h = 2 ^ (p - 1)) (hp : k.2.1 = (p : Int)) (hp1 : 1 < p) (hp3 : p ≤ 53) (b : List Int) (hb : Nrm b) (hl : bl (val b) ≤ 2200) :
    evalFn E Try.f26 cod [(pG (.pair (sN .u64) (.pair (sN .i64) (.pair (sN .i64) (.pair (sN .i64) (.pair (sN .u64) (sN .u64))))))).put k, (pI .u32).put b] = some (sp k b).2 := by
  refine (start k.1 k.2.1 k.2.2.1 k.2.2.2.1 k.2.2.2.2.1 k.2.2.2.2.2 b).trans ?_
  have l0 := len_dg_bl (val b)
  rw [nrm_len hb] at l0
  have hP : kP k = p := by unfold kP; omega
  have hhl : h ≤ 2 ^ 52 := by rw [hp2]; exact Nat.pow_le_pow_right (by omega) (by omega)
  unfold sp sizeN
  simp only [hh, hP, val_dg]
  rw [hp, gP ⟨hb, by omega⟩]
  by_cases h1 : bl (val b) < p
  · have : val b < 2 ^ 53 := by rw [← bl_le]; omega
    rw [bD_pos (by omega), gP ⟨hb.dig, by omega⟩, if_pos h1, if_pos (by omega)]
  · have e1 : IntKind.i64.wrap ((bl (val b) : Int) - p) = ((bl (val b) - p : Nat) : Int) := by rw [wrap_i64 (by omega) (by omega)]; omega
    have e2 : IntKind.i64.wrap ((p : Int) - 1) = ((p - 1 : Nat) : Int) := by rw [wrap_i64 (by omega) (by omega)]; omega
    have l1 := len_dg_div (val b) (2 ^ (bl (val b) - p))
    rw [nrm_len hb] at l1
    have hq : val b / 2 ^ (bl (val b) - p) < 2 ^ 53 := by
      have : val b / 2 ^ (bl (val b) - p) < 2 ^ p := by
        apply Nat.div_lt_of_lt_mul
        rw [← Nat.pow_add, ← bl_le]; omega
      exact Nat.lt_of_lt_of_le this (Nat.pow_le_pow_right (by omega) hp3)
    have hm : (bl (val b) - p) * h ≤ 2200 * 2 ^ 52 := Nat.mul_le_mul (by omega) hhl
    have e3 : min (p - 1) 64 = p - 1 := by omega
    rw [bD_neg (by omega), e1, e2, Int.toNat_natCast, Int.toNat_natCast, gP ⟨hb.dig, by omega, by omega⟩, gP ⟨dig_dg _, by omega⟩, if_neg (by omega), if_neg h1, if_pos (by omega), e3, ← hp2]
    have e4 : ((bl (val b) - p : Nat) : Int) * (h : Int) = (((bl (val b) - p) * h : Nat) : Int) := by rw [Int.natCast_mul]
    rw [wrap_u64 (n := ((bl (val b) - p : Nat) : Int)) (by omega) (by omega), e4]
    generalize (bl (val b) - p) * h = u at *
    generalize val b / 2 ^ (bl (val b) - p) = v at *
    rw [wrap_u64 (n := (u : Int)) (by omega) (by omega), wrap_u64 (by omega) (by omega)]
    rfl
theorem spec (k : K6) (b : List Int) (h : (sp k b).1) : evalFn E Try.f26 cod [(pG (.pair (sN .u64) (.pair (sN .i64) (.pair (sN .i64) (.pair (sN .i64) (.pair (sN .u64) (sN .u64))))))).put k, (pI .u32).put b] = some (sp k b).2 := by
  obtain ⟨hk, hb, hl⟩ := h
  rcases hk with rfl | rfl
  · exact gen 53 Parts7.kH_t (by simp) rfl (by omega) (by omega) b hb hl
  · exact gen 24 Parts7.kH_f (by simp) rfl (by omega) (by omega) b hb hl

noncomputable def orc : Orc := orc2 (pG (.pair (sN .u64) (.pair (sN .i64) (.pair (sN .i64) (.pair (sN .i64) (.pair (sN .u64) (sN .u64))))))) (pI .u32) sp
theorem fnok : FnOk Try.prog E 26 Try.f26 cod := fnOk ty_ok mixed (callsOk_of _ rfl (orcs_cons Bits.ok (orcs_cons Fits.ok (orcs_cons Shr.ok orcs_nil))) (ext_ok)) Try.func26 rfl rfl rfl
theorem ok : OrcOk Try.prog base.glob 26 orc := fnok.ok2 rfl spec
end Size7
end Go.Proofs.Ytnhebddoclhnnaa.W

/- gnomon/gnomonref07.Cut -/
namespace Go.Proofs.Ytnhebddoclhnnaa.W
open Go Go.Proofs.Ytnhebddoclhnnaa.AI Go.Proofs.Ytnhebddoclhnnaa.M
namespace Cut7
noncomputable def E : Env := { (base) with nt := 14, own := [], keep := fun k => (tlook [] k).getD [], cut := tlook [] }
noncomputable def cod : Code := (Go.Proofs.Try.f33.body).getD .skip
theorem nok : namesOk E cod = true := by kernel_rfl
theorem start (a1 : Int) (a2 : Int) (a3 : Int) (a4 : Int) (a5 : Int) (a6 : Int) (b : Int) : evalFn E Go.Proofs.Try.f33 cod [D.agg [S.sc (Value.int IntKind.u64 a1), S.sc (Value.int IntKind.i64 a2), S.sc (Value.int IntKind.i64 a3), S.sc (Value.int IntKind.i64 a4), S.sc (Value.int IntKind.u64 a5), S.sc (Value.int IntKind.u64 a6)], D.s (S.sc (Value.int IntKind.u64 b))] = if a1 = (0 : Int) then none else some [D.s (S.sc (Value.bool (decide (a1 ≤ b)))), D.s (S.sc (Value.int IntKind.u64 (b.tmod a1)))] := (evalFn_J rfl nok _).trans (by kernel_rfl)
-- stuck: 0
end Cut7
namespace Cut7
noncomputable def sp (k : K6) (b : Int) : Prop × List D := (IsK k ∧ 0 ≤ b, [.s (.sc (.bool (decide (k.1 ≤ b)))), .s (.sc (.int .u64 (b % k.1)))])
theorem spec (k : K6) (b : Int) (h : (sp k b).1) : evalFn E Try.f33 cod [(pG (.pair (sN .u64) (.pair (sN .i64) (.pair (sN .i64) (.pair (sN .i64) (.pair (sN .u64) (sN .u64))))))).put k, (pN .u64).put b] = some (sp k b).2 := by
  refine (start k.1 k.2.1 k.2.2.1 k.2.2.2.1 k.2.2.2.2.1 k.2.2.2.2.2 b).trans ?_
  obtain ⟨hk, hb⟩ := h
  rw [if_neg (by rcases hk with rfl | rfl <;> simp [kf]), Int.tmod_eq_emod_of_nonneg hb]
  rfl

noncomputable def orc : Orc := orc2 (pG (.pair (sN .u64) (.pair (sN .i64) (.pair (sN .i64) (.pair (sN .i64) (.pair (sN .u64) (sN .u64))))))) (pN .u64) sp
theorem fnok : FnOk Try.prog E 33 Try.f33 cod := fnOk ty_ok mixed (callsOk_of _ rfl orcs_nil (ext_ok)) Try.func33 rfl rfl rfl
theorem ok : OrcOk Try.prog base.glob 33 orc := fnok.ok2 rfl spec
end Cut7
end Go.Proofs.Ytnhebddoclhnnaa.W

/- gnomon/gnomonref04.Mk -/
namespace Go.Proofs.Ytnhebddoclhnnaa.W
open Go Go.Proofs.Ytnhebddoclhnnaa.AI Go.Proofs.Ytnhebddoclhnnaa.M
namespace Mk
noncomputable def E : Env := { ({ base with C := callsOf [(18, Norm.orc)] }) with nt := 16, own := [], keep := fun k => (tlook [] k).getD [], cut := tlook [] }
noncomputable def cod : Code := (Go.Proofs.Try.f11.body).getD .skip
theorem nok : namesOk E cod = true := by kernel_rfl
theorem start (a : Bool) (b : List Int) : evalFn E Go.Proofs.Try.f11 cod [D.s (S.sc (Value.bool a)), D.s (S.ints IntKind.u32 b)] = gif (Dig b ∧ b.length ≤ (4398046511104 : Nat)) (bcase a (some [D.agg [S.sc (Value.bool (decide ((0 : Int) < (↑(dg (val b)).length : Int)))), S.ints IntKind.u32 (dg (val b))]]) (some [D.agg [S.sc (Value.bool false), S.ints IntKind.u32 (dg (val b))]])) := (evalFn_J rfl nok _).trans (by kernel_rfl)
-- stuck: 0
end Mk
namespace Mk
noncomputable def sp (b : Bool) (m : List Int) : Prop × List D := (Dig m ∧ m.length ≤ 4398046511104, [zD (zs b (val m))])
theorem spec (b : Bool) (m : List Int) (h : (sp b m).1) : evalFn E Try.f11 cod [pB.put b, (pI .u32).put m] = some (sp b m).2 := by
  refine (start b m).trans ((gP h).trans ?_)
  unfold sp
  simp only [zD_zs]
  cases b with
  | false => rfl
  | true =>
    rw [bT]
    have : decide (0 < ((dg (val m)).length : Int)) = decide (val m ≠ 0) := by
      by_cases h : val m = 0
      · rw [h, dg_zero]; rfl
      · rw [decide_eq_true h, decide_eq_true]
        have : (dg (val m)).length ≠ 0 := fun hh => h (dg_len_zero.1 hh)
        omega
    rw [this]; rfl

noncomputable def orc : Orc := orc2 pB (pI .u32) sp
theorem fnok : FnOk Try.prog E 11 Try.f11 cod := fnOk ty_ok mixed (callsOk_of _ rfl (orcs_cons Norm.ok orcs_nil) (ext_ok)) Try.func11 rfl rfl rfl
theorem ok : OrcOk Try.prog base.glob 11 orc := fnok.ok2 rfl spec
end Mk
end Go.Proofs.Ytnhebddoclhnnaa.W

/- gnomon/gnomonref07.Whole -/
namespace Go.Proofs.Ytnhebddoclhnnaa.W
open Go Go.Proofs.Ytnhebddoclhnnaa.AI Go.Proofs.Ytnhebddoclhnnaa.M
namespace Whole7
noncomputable def E : Env := { ({ base with C := callsOf [(33, Cut7.orc), (34, Parts7.orc), (17, Word.orc), (14, Shl.orc), (11, Mk.orc)] }) with nt := 30, own := [], keep := fun k => (tlook [] k).getD [], cut := tlook [] }
noncomputable def cod : Code := (Go.Proofs.Try.f28.body).getD .skip
theorem nok : namesOk E cod = true := by kernel_rfl
theorem start (a1 : Int) (a2 : Int) (a3 : Int) (a4 : Int) (a5 : Int) (a6 : Int) (b : Int) : evalFn E Go.Proofs.Try.f28 cod [D.agg [S.sc (Value.int IntKind.u64 a1), S.sc (Value.int IntKind.i64 a2), S.sc (Value.int IntKind.i64 a3), S.sc (Value.int IntKind.i64 a4), S.sc (Value.int IntKind.u64 a5), S.sc (Value.int IntKind.u64 a6)], D.s (S.sc (Value.int IntKind.u64 b))] = gif (IsK (a1, a2, a3, a4, a5, a6) ∧ (0 : Int) ≤ b) (gif (IsK (a1, a2, a3, a4, a5, a6) ∧ (0 : Int) ≤ b % (a1, a2, a3, a4, a5, a6).fst ∧ b % (a1, a2, a3, a4, a5, a6).fst < (9223372036854775808 : Int)) (gif ((0 : Int) ≤ (↑(partM (a1, a2, a3, a4, a5, a6) (b % (a1, a2, a3, a4, a5, a6).fst).toNat) : Int) ∧ (↑(partM (a1, a2, a3, a4, a5, a6) (b % (a1, a2, a3, a4, a5, a6).fst).toNat) : Int) < (18446744073709551616 : Int)) (gif (Nrm (dg (↑(partM (a1, a2, a3, a4, a5, a6) (b % (a1, a2, a3, a4, a5, a6).fst).toNat) : Int).toNat) ∧ (dg (↑(partM (a1, a2, a3, a4, a5, a6) (b % (a1, a2, a3, a4, a5, a6).fst).toNat) : Int).toNat).length ≤ (1099511627776 : Nat) ∧ IntKind.i64.wrap (kE (a1, a2, a3, a4, a5, a6) + (↑(partX (a1, a2, a3, a4, a5, a6) (b % (a1, a2, a3, a4, a5, a6).fst).toNat) : Int) - a3) ≤ (1099511627776 : Int)) (gif (Dig (dg (val (dg (↑(partM (a1, a2, a3, a4, a5, a6) (b % (a1, a2, a3, a4, a5, a6).fst).toNat) : Int).toNat) * (2 : Nat) ^ (IntKind.i64.wrap (kE (a1, a2, a3, a4, a5, a6) + (↑(partX (a1, a2, a3, a4, a5, a6) (b % (a1, a2, a3, a4, a5, a6).fst).toNat) : Int) - a3)).toNat)) ∧ (dg (val (dg (↑(partM (a1, a2, a3, a4, a5, a6) (b % (a1, a2, a3, a4, a5, a6).fst).toNat) : Int).toNat) * (2 : Nat) ^ (IntKind.i64.wrap (kE (a1, a2, a3, a4, a5, a6) + (↑(partX (a1, a2, a3, a4, a5, a6) (b % (a1, a2, a3, a4, a5, a6).fst).toNat) : Int) - a3)).toNat)).length ≤ (4398046511104 : Nat)) (some [D.agg [S.sc (Value.bool (isNeg (zs (decide ((a1, a2, a3, a4, a5, a6).fst ≤ b)) (val (dg (val (dg (↑(partM (a1, a2, a3, a4, a5, a6) (b % (a1, a2, a3, a4, a5, a6).fst).toNat) : Int).toNat) * (2 : Nat) ^ (IntKind.i64.wrap (kE (a1, a2, a3, a4, a5, a6) + (↑(partX (a1, a2, a3, a4, a5, a6) (b % (a1, a2, a3, a4, a5, a6).fst).toNat) : Int) - a3)).toNat)))))), S.ints IntKind.u32 (dg (zs (decide ((a1, a2, a3, a4, a5, a6).fst ≤ b)) (val (dg (val (dg (↑(partM (a1, a2, a3, a4, a5, a6) (b % (a1, a2, a3, a4, a5, a6).fst).toNat) : Int).toNat) * (2 : Nat) ^ (IntKind.i64.wrap (kE (a1, a2, a3, a4, a5, a6) + (↑(partX (a1, a2, a3, a4, a5, a6) (b % (a1, a2, a3, a4, a5, a6).fst).toNat) : Int) - a3)).toNat)))).natAbs)]]))))) := (evalFn_J rfl nok _).trans (by kernel_rfl)
-- stuck: 0
end Whole7
namespace Whole7
noncomputable def sp (k : K6) (b : Int) : Prop × List D := (IsK k ∧ 0 ≤ b ∧ b < 18446744073709551616 ∧ b % k.1 ≤ kI k + 1, [zD (zs (decide (k.1 ≤ b)) (wholeN k (b % k.1).toNat))])
theorem gen {k : K6} (hk : IsK k) (h : Nat) (hh : kH k = h) (h1 : 1 < h) (h2 : h ≤ 4503599627370496) (hS : 0 < k.1) (hS' : k.1 ≤ 9223372036854775808) (hI : kI k + 1 < 2200 * h) (b : Int) (hb : 0 ≤ b) (hbi : b % k.1 ≤ kI k + 1) :
    evalFn E Try.f28 cod [(pG (.pair (sN .u64) (.pair (sN .i64) (.pair (sN .i64) (.pair (sN .i64) (.pair (sN .u64) (sN .u64))))))).put k, (pN .u64).put b] = some (sp k b).2 := by
  refine (start k.1 k.2.1 k.2.2.1 k.2.2.2.1 k.2.2.2.2.1 k.2.2.2.2.2 b).trans ?_
  show _ = some [zD (zs (decide (k.1 ≤ b)) (wholeN k (b % k.1).toNat))]
  have hm0 := Int.emod_nonneg b (show k.1 ≠ 0 by omega)
  have hm1 := Int.emod_lt_of_pos b hS
  have hk' : IsK (k.1, k.2.1, k.2.2.1, k.2.2.2.1, k.2.2.2.2.1, k.2.2.2.2.2) := hk
  have hE2 : k.2.2.1 = kE k := rfl
  have ek : (k.1, k.2.1, k.2.2.1, k.2.2.2.1, k.2.2.2.2.1, k.2.2.2.2.2) = k := rfl
  rw [ek, hE2]
  generalize hs : (b % k.1).toNat = s
  have hq : s / h < 2200 := by apply Nat.div_lt_of_lt_mul; rw [Nat.mul_comm]; omega
  have hx : partX k s ≤ 2200 := by unfold partX; rw [hh]; omega
  have hp : partM k s < 9007199254740992 := by
    unfold partM
    rw [hh]
    split
    · rename_i h0
      have := (Nat.div_eq_zero_iff_lt (by omega : 0 < h)).1 h0
      omega
    · have := Nat.mod_lt s (show 0 < h by omega)
      omega
  have l0 : (dg (partM k s)).length ≤ 2 := len_dg_le (by omega)
  have l1 := len_dg_shl (partM k s) (partX k s)
  have ew : IntKind.i64.wrap (kE k + (partX k s : Int) - kE k) = (partX k s : Int) := by rw [wrap_i64 (by omega) (by omega)]; omega
  rw [gP ⟨hk, hb⟩, gP ⟨hk, hm0, by omega⟩, gP ⟨by omega, by omega⟩, ew, Int.toNat_natCast, Int.toNat_natCast, gP ⟨nrm_dg _, by omega, by omega⟩, val_dg, gP ⟨dig_dg _, by omega⟩, val_dg]
  rfl
theorem spec (k : K6) (b : Int) (h : (sp k b).1) : evalFn E Try.f28 cod [(pG (.pair (sN .u64) (.pair (sN .i64) (.pair (sN .i64) (.pair (sN .i64) (.pair (sN .u64) (sN .u64))))))).put k, (pN .u64).put b] = some (sp k b).2 := by
  obtain ⟨hk, hb, hb', hi⟩ := h
  rcases hk with rfl | rfl
  · exact gen (.inl rfl) _ Parts7.kH_t (by omega) (by omega) (by simp [kf]) (by simp [kf]) (by simp [kI, kf]) b hb hi
  · exact gen (.inr rfl) _ Parts7.kH_f (by omega) (by omega) (by simp [kf]) (by simp [kf]) (by simp [kI, kf]) b hb hi

noncomputable def orc : Orc := orc2 (pG (.pair (sN .u64) (.pair (sN .i64) (.pair (sN .i64) (.pair (sN .i64) (.pair (sN .u64) (sN .u64))))))) (pN .u64) sp
theorem fnok : FnOk Try.prog E 28 Try.f28 cod := fnOk ty_ok mixed (callsOk_of _ rfl (orcs_cons Cut7.ok (orcs_cons Parts7.ok (orcs_cons Word.ok (orcs_cons Shl.ok (orcs_cons Mk.ok orcs_nil))))) (ext_ok)) Try.func28 rfl rfl rfl
theorem ok : OrcOk Try.prog base.glob 28 orc := fnok.ok2 rfl spec
end Whole7
end Go.Proofs.Ytnhebddoclhnnaa.W

/- gnomon/gnomonref04.Add -/
namespace Go.Proofs.Ytnhebddoclhnnaa.W
open Go Go.Proofs.Ytnhebddoclhnnaa.AI Go.Proofs.Ytnhebddoclhnnaa.M
namespace ZAdd
noncomputable def E : Env := { ({ base with C := callsOf [(11, Mk.orc), (22, Add.orc), (16, Cmp.orc), (9, Sub.orc)] }) with nt := 40, own := [], keep := fun k => (tlook [] k).getD [], cut := tlook [] }
noncomputable def cod : Code := (Go.Proofs.Try.f27.body).getD .skip
theorem nok : namesOk E cod = true := by kernel_rfl
theorem start (a1 : Bool) (a2 : List Int) (b1 : Bool) (b2 : List Int) : evalFn E Go.Proofs.Try.f27 cod [D.agg [S.sc (Value.bool a1), S.ints IntKind.u32 a2], D.agg [S.sc (Value.bool b1), S.ints IntKind.u32 b2]] = bcase (a1 == b1) (gif (Dig a2 ∧ Dig b2 ∧ a2.length ≤ (1099511627776 : Nat) ∧ b2.length ≤ (1099511627776 : Nat)) (gif (Dig (dg (val a2 + val b2)) ∧ (dg (val a2 + val b2)).length ≤ (4398046511104 : Nat)) (some [D.agg [S.sc (Value.bool (isNeg (zs a1 (val (dg (val a2 + val b2)))))), S.ints IntKind.u32 (dg (zs a1 (val (dg (val a2 + val b2)))).natAbs)]]))) (gif (Nrm a2 ∧ Nrm b2 ∧ a2.length ≤ (4398046511104 : Nat) ∧ b2.length ≤ (4398046511104 : Nat)) (bcase (decide ((0 : Int) ≤ cmpN (val a2) (val b2))) (gif (Nrm a2 ∧ Nrm b2 ∧ a2.length ≤ (4398046511104 : Nat) ∧ b2.length ≤ (4398046511104 : Nat)) (gif (Dig (dg (val a2 - val b2)) ∧ (dg (val a2 - val b2)).length ≤ (4398046511104 : Nat)) (some [D.agg [S.sc (Value.bool (isNeg (zs a1 (val (dg (val a2 - val b2)))))), S.ints IntKind.u32 (dg (zs a1 (val (dg (val a2 - val b2)))).natAbs)]]))) (gif (Nrm b2 ∧ Nrm a2 ∧ b2.length ≤ (4398046511104 : Nat) ∧ a2.length ≤ (4398046511104 : Nat)) (gif (Dig (dg (val b2 - val a2)) ∧ (dg (val b2 - val a2)).length ≤ (4398046511104 : Nat)) (some [D.agg [S.sc (Value.bool (isNeg (zs b1 (val (dg (val b2 - val a2)))))), S.ints IntKind.u32 (dg (zs b1 (val (dg (val b2 - val a2)))).natAbs)]]))))) := (evalFn_J rfl nok _).trans (by kernel_rfl)
-- stuck: 0
end ZAdd
namespace ZAdd
noncomputable def sp (x y : Bool × List Int) : Prop × List D := (Zok x ∧ Zok y, [zD (zv x + zv y)])
theorem spec (x y : Bool × List Int) (h : (sp x y).1) : evalFn E Try.f27 cod [(pG (.pair sB (sI .u32))).put x, (pG (.pair sB (sI .u32))).put y] = some (sp x y).2 := by
  refine (start x.1 x.2 y.1 y.2).trans ?_
  obtain ⟨hx, hy⟩ := h
  have l1 := hx.len
  have l2 := hy.len
  have l3 := len_dg_add (val x.2) (val y.2)
  have l4 := len_dg_sub (val x.2) (val y.2)
  have l5 := len_dg_sub (val y.2) (val x.2)
  rw [nrm_len hx.1, nrm_len hy.1] at l3
  rw [nrm_len hx.1] at l4
  rw [nrm_len hy.1] at l5
  simp only [val_dg]
  show _ = some [zD (zv x + zv y)]
  rw [gP ⟨hx.1.dig, hy.1.dig, by omega, by omega⟩, gP ⟨dig_dg _, by omega⟩, gP ⟨hx.1, hy.1, by omega, by omega⟩, gP ⟨hx.1, hy.1, by omega, by omega⟩, gP ⟨dig_dg _, by omega⟩, gP ⟨hy.1, hx.1, by omega, by omega⟩, gP ⟨dig_dg _, by omega⟩]
  by_cases he : x.1 = y.1
  · rw [bB_pos (by rw [he]; simp)]
    have : zs x.1 (val x.2 + val y.2) = zv x + zv y := by
      unfold zv zs
      rw [← he]
      cases x.1 <;> simp <;> omega
    rw [this]; rfl
  · rw [bB_neg (by simpa using he)]
    by_cases hc : val y.2 ≤ val x.2
    · rw [bD_pos (cmpN_ge.2 hc)]
      have : zs x.1 (val x.2 - val y.2) = zv x + zv y := by
        unfold zv zs
        cases h1 : x.1 <;> cases h2 : y.1 <;> simp_all <;> omega
      rw [this]; rfl
    · rw [bD_neg (fun h => hc (cmpN_ge.1 h))]
      have : zs y.1 (val y.2 - val x.2) = zv x + zv y := by
        unfold zv zs
        cases h1 : x.1 <;> cases h2 : y.1 <;> simp_all <;> omega
      rw [this]; rfl

noncomputable def orc : Orc := orc2 (pG (.pair sB (sI .u32))) (pG (.pair sB (sI .u32))) sp
theorem fnok : FnOk Try.prog E 27 Try.f27 cod := fnOk ty_ok mixed (callsOk_of _ rfl (orcs_cons Mk.ok (orcs_cons Add.ok (orcs_cons Cmp.ok (orcs_cons Sub.ok orcs_nil)))) (ext_ok)) Try.func27 rfl rfl rfl
theorem ok : OrcOk Try.prog base.glob 27 orc := fnok.ok2 rfl spec
end ZAdd
end Go.Proofs.Ytnhebddoclhnnaa.W

/- gnomon/gnomonref04.Sign -/
namespace Go.Proofs.Ytnhebddoclhnnaa.W
open Go Go.Proofs.Ytnhebddoclhnnaa.AI Go.Proofs.Ytnhebddoclhnnaa.M
namespace ZSign
noncomputable def E : Env := { (base) with nt := 11, own := [], keep := fun k => (tlook [] k).getD [], cut := tlook [] }
noncomputable def cod : Code := (Go.Proofs.Try.f35.body).getD .skip
theorem nok : namesOk E cod = true := by kernel_rfl
theorem start (a1 : Bool) (a2 : List Int) : evalFn E Go.Proofs.Try.f35 cod [D.agg [S.sc (Value.bool a1), S.ints IntKind.u32 a2]] = bcase ((↑a2.length : Int) == (0 : Int)) (some [D.s (S.sc (Value.int IntKind.i64 (0 : Int)))]) (bcase a1 (some [D.s (S.sc (Value.int IntKind.i64 (-1 : Int)))]) (some [D.s (S.sc (Value.int IntKind.i64 (1 : Int)))])) := (evalFn_J rfl nok _).trans (by kernel_rfl)
-- stuck: 0
end ZSign
namespace ZSign
noncomputable def sp (x : Bool × List Int) : Prop × List D := (Zok x, [.s (.sc (.int .i64 (cmpZ (zv x) 0)))])
theorem spec (x : Bool × List Int) (h : (sp x).1) : evalFn E Try.f35 cod [(pG (.pair sB (sI .u32))).put x] = some (sp x).2 := by
  refine (start x.1 x.2).trans ?_
  obtain ⟨h1, h2, h3⟩ := h
  unfold sp
  simp only
  by_cases hz : x.2.length = 0
  · have := (len_zero h1).1 hz
    rw [bE_pos (by omega)]
    cases hx : x.1 with
    | true => exact (h2 hx this).elim
    | false => rw [zv_pos hx, this]; rfl
  · have hv : val x.2 ≠ 0 := fun h => hz ((len_zero h1).2 h)
    rw [bE_neg (by omega)]
    cases hx : x.1 with
    | true => rw [bT, zv_neg hx]; unfold cmpZ; rw [if_pos (by omega)]
    | false => rw [bF, zv_pos hx]; unfold cmpZ; rw [if_neg (by omega), if_pos (by omega)]

noncomputable def orc : Orc := orc1 (pG (.pair sB (sI .u32))) sp
theorem fnok : FnOk Try.prog E 35 Try.f35 cod := fnOk ty_ok mixed (callsOk_of _ rfl orcs_nil (ext_ok)) Try.func35 rfl rfl rfl
theorem ok : OrcOk Try.prog base.glob 35 orc := fnok.ok1 rfl spec
end ZSign
end Go.Proofs.Ytnhebddoclhnnaa.W

/- gnomon/gnomonref04.Of -/
namespace Go.Proofs.Ytnhebddoclhnnaa.W
open Go Go.Proofs.Ytnhebddoclhnnaa.AI Go.Proofs.Ytnhebddoclhnnaa.M
namespace ZOf
noncomputable def E : Env := { ({ base with C := callsOf [(11, Mk.orc), (22, Add.orc), (17, Word.orc)] }) with nt := 17, own := [], keep := fun k => (tlook [] k).getD [], cut := tlook [] }
noncomputable def cod : Code := (Go.Proofs.Try.f36.body).getD .skip
theorem nok : namesOk E cod = true := by kernel_rfl
theorem start (a : Int) : evalFn E Go.Proofs.Try.f36 cod [D.s (S.sc (Value.int IntKind.i64 a))] = bcase (decide (a < (0 : Int))) (gif ((0 : Int) ≤ IntKind.u64.wrap (IntKind.i64.wrap ((0 : Int) - IntKind.i64.wrap (a + (1 : Int)))) ∧ IntKind.u64.wrap (IntKind.i64.wrap ((0 : Int) - IntKind.i64.wrap (a + (1 : Int)))) < (18446744073709551616 : Int)) (gif ((0 : Int) ≤ (1 : Int) ∧ (1 : Int) < (18446744073709551616 : Int)) (gif (Dig (dg (IntKind.u64.wrap (IntKind.i64.wrap ((0 : Int) - IntKind.i64.wrap (a + (1 : Int))))).toNat) ∧ Dig (dg (1 : Nat)) ∧ (dg (IntKind.u64.wrap (IntKind.i64.wrap ((0 : Int) - IntKind.i64.wrap (a + (1 : Int))))).toNat).length ≤ (1099511627776 : Nat) ∧ (dg (1 : Nat)).length ≤ (1099511627776 : Nat)) (gif (Dig (dg (val (dg (IntKind.u64.wrap (IntKind.i64.wrap ((0 : Int) - IntKind.i64.wrap (a + (1 : Int))))).toNat) + val (dg (1 : Nat)))) ∧ (dg (val (dg (IntKind.u64.wrap (IntKind.i64.wrap ((0 : Int) - IntKind.i64.wrap (a + (1 : Int))))).toNat) + val (dg (1 : Nat)))).length ≤ (4398046511104 : Nat)) (some [D.agg [S.sc (Value.bool (isNeg (zs true (val (dg (val (dg (IntKind.u64.wrap (IntKind.i64.wrap ((0 : Int) - IntKind.i64.wrap (a + (1 : Int))))).toNat) + val (dg (1 : Nat)))))))), S.ints IntKind.u32 (dg (zs true (val (dg (val (dg (IntKind.u64.wrap (IntKind.i64.wrap ((0 : Int) - IntKind.i64.wrap (a + (1 : Int))))).toNat) + val (dg (1 : Nat)))))).natAbs)]]))))) (gif ((0 : Int) ≤ IntKind.u64.wrap a ∧ IntKind.u64.wrap a < (18446744073709551616 : Int)) (gif (Dig (dg (IntKind.u64.wrap a).toNat) ∧ (dg (IntKind.u64.wrap a).toNat).length ≤ (4398046511104 : Nat)) (some [D.agg [S.sc (Value.bool (isNeg (zs false (val (dg (IntKind.u64.wrap a).toNat))))), S.ints IntKind.u32 (dg (zs false (val (dg (IntKind.u64.wrap a).toNat))).natAbs)]]))) := (evalFn_J rfl nok _).trans (by kernel_rfl)
-- stuck: 0
end ZOf
namespace ZOf
noncomputable def sp (a : Int) : Prop × List D := (-9223372036854775808 ≤ a ∧ a < 9223372036854775808, [zD a])
theorem len64 {n : Nat} (h : n < 18446744073709551616) : (dg n).length ≤ 2 := len_dg_le (by simpa using h)
theorem spec (a : Int) (h : (sp a).1) : evalFn E Try.f36 cod [(pN .i64).put a] = some (sp a).2 := by
  obtain ⟨h1, h2⟩ := h
  refine (start a).trans ?_
  show _ = some [zD a]
  simp only [val_dg]
  by_cases hn : a < 0
  · have e : IntKind.u64.wrap (IntKind.i64.wrap (0 - IntKind.i64.wrap (a + 1))) = -(a + 1) := by
      rw [wrap_i64 (n := a + 1) (by omega) (by omega), wrap_i64 (by omega) (by omega), wrap_u64 (by omega) (by omega)]; omega
    have l1 := len64 (n := (-(a + 1)).toNat) (by omega)
    have l2 := len64 (n := (-(a + 1)).toNat + 1) (by omega)
    have l3 := len64 (n := 1) (by omega)
    rw [bD_pos hn, e, gP ⟨by omega, by omega⟩, gP ⟨by omega, by omega⟩, gP ⟨dig_dg _, dig_dg _, by omega, by omega⟩, gP ⟨dig_dg _, by omega⟩]
    have ez : zs true ((-(a + 1)).toNat + 1) = a := by unfold zs; simp only [cond_true]; omega
    rw [ez]
    rfl
  · have l1 := len64 (n := a.toNat) (by omega)
    rw [bD_neg hn, wrap_u64 (by omega) (by omega), gP ⟨by omega, by omega⟩, gP ⟨dig_dg _, by omega⟩]
    have ez : zs false a.toNat = a := by unfold zs; simp only [cond_false]; omega
    rw [ez]
    rfl

noncomputable def orc : Orc := orc1 (pN .i64) sp
theorem fnok : FnOk Try.prog E 36 Try.f36 cod := fnOk ty_ok mixed (callsOk_of _ rfl (orcs_cons Mk.ok (orcs_cons Add.ok (orcs_cons Word.ok orcs_nil))) (ext_ok)) Try.func36 rfl rfl rfl
theorem ok : OrcOk Try.prog base.glob 36 orc := fnok.ok1 rfl spec
end ZOf
end Go.Proofs.Ytnhebddoclhnnaa.W

/- gnomon/gnomonref04.Flip -/
namespace Go.Proofs.Ytnhebddoclhnnaa.W
open Go Go.Proofs.Ytnhebddoclhnnaa.AI Go.Proofs.Ytnhebddoclhnnaa.M
namespace Flip
noncomputable def E : Env := { ({ base with C := callsOf [(11, Mk.orc)] }) with nt := 9, own := [], keep := fun k => (tlook [] k).getD [], cut := tlook [] }
noncomputable def cod : Code := (Go.Proofs.Try.f41.body).getD .skip
theorem nok : namesOk E cod = true := by kernel_rfl
theorem start (a1 : Bool) (a2 : List Int) : evalFn E Go.Proofs.Try.f41 cod [D.agg [S.sc (Value.bool a1), S.ints IntKind.u32 a2]] = gif (Dig a2 ∧ a2.length ≤ (4398046511104 : Nat)) (some [D.agg [S.sc (Value.bool (isNeg (zs (!a1) (val a2)))), S.ints IntKind.u32 (dg (zs (!a1) (val a2)).natAbs)]]) := (evalFn_J rfl nok _).trans (by kernel_rfl)
-- stuck: 0
end Flip
namespace Flip
noncomputable def sp (x : Bool × List Int) : Prop × List D := (Zok x, [zD (-zv x)])
theorem spec (x : Bool × List Int) (h : (sp x).1) : evalFn E Try.f41 cod [(pG (.pair sB (sI .u32))).put x] = some (sp x).2 := by
  refine (start x.1 x.2).trans ((gP ⟨h.1.dig, by have := h.len; omega⟩).trans ?_)
  show _ = some [zD (-zv x)]
  have : zs (!x.1) (val x.2) = -zv x := by unfold zv zs; cases x.1 <;> simp
  rw [this]
  rfl

noncomputable def orc : Orc := orc1 (pG (.pair sB (sI .u32))) sp
theorem fnok : FnOk Try.prog E 41 Try.f41 cod := fnOk ty_ok mixed (callsOk_of _ rfl (orcs_cons Mk.ok orcs_nil) (ext_ok)) Try.func41 rfl rfl rfl
theorem ok : OrcOk Try.prog base.glob 41 orc := fnok.ok1 rfl spec
end Flip
end Go.Proofs.Ytnhebddoclhnnaa.W

/- gnomon/gnomonref04.Sub -/
namespace Go.Proofs.Ytnhebddoclhnnaa.W
open Go Go.Proofs.Ytnhebddoclhnnaa.AI Go.Proofs.Ytnhebddoclhnnaa.M
namespace ZSub
noncomputable def E : Env := { ({ base with C := callsOf [(27, ZAdd.orc), (41, Flip.orc)] }) with nt := 9, own := [], keep := fun k => (tlook [] k).getD [], cut := tlook [] }
noncomputable def cod : Code := (Go.Proofs.Try.f40.body).getD .skip
theorem nok : namesOk E cod = true := by kernel_rfl
theorem start (a1 : Bool) (a2 : List Int) (b1 : Bool) (b2 : List Int) : evalFn E Go.Proofs.Try.f40 cod [D.agg [S.sc (Value.bool a1), S.ints IntKind.u32 a2], D.agg [S.sc (Value.bool b1), S.ints IntKind.u32 b2]] = gif (Zok (b1, b2)) (gif (Zok (a1, a2) ∧ Zok (isNeg (-zv (b1, b2)), dg (-zv (b1, b2)).natAbs)) (some [D.agg [S.sc (Value.bool (isNeg (zv (a1, a2) + zv (isNeg (-zv (b1, b2)), dg (-zv (b1, b2)).natAbs)))), S.ints IntKind.u32 (dg (zv (a1, a2) + zv (isNeg (-zv (b1, b2)), dg (-zv (b1, b2)).natAbs)).natAbs)]])) := (evalFn_J rfl nok _).trans (by kernel_rfl)
-- stuck: 0
end ZSub
namespace ZSub
noncomputable def sp (x y : Bool × List Int) : Prop × List D := (Zok x ∧ Zok y, [zD (zv x - zv y)])
theorem spec (x y : Bool × List Int) (h : (sp x y).1) : evalFn E Try.f40 cod [(pG (.pair sB (sI .u32))).put x, (pG (.pair sB (sI .u32))).put y] = some (sp x y).2 := by
  refine (start x.1 x.2 y.1 y.2).trans ?_
  obtain ⟨hx, hy⟩ := h
  have l2 := hy.len
  rw [gP hy, gP ⟨hx, zok_zD (by rw [Int.natAbs_neg, zv_abs, nrm_len hy.1]; exact l2)⟩, zv_zD]
  show _ = some [zD (zv x - zv y)]
  rw [Int.sub_eq_add_neg]
  rfl

noncomputable def orc : Orc := orc2 (pG (.pair sB (sI .u32))) (pG (.pair sB (sI .u32))) sp
theorem fnok : FnOk Try.prog E 40 Try.f40 cod := fnOk ty_ok mixed (callsOk_of _ rfl (orcs_cons ZAdd.ok (orcs_cons Flip.ok orcs_nil)) (ext_ok)) Try.func40 rfl rfl rfl
theorem ok : OrcOk Try.prog base.glob 40 orc := fnok.ok2 rfl spec
end ZSub
end Go.Proofs.Ytnhebddoclhnnaa.W

/- gnomon/gnomonref04.Cmp -/
namespace Go.Proofs.Ytnhebddoclhnnaa.W
open Go Go.Proofs.Ytnhebddoclhnnaa.AI Go.Proofs.Ytnhebddoclhnnaa.M
namespace ZCmp
noncomputable def E : Env := { ({ base with C := callsOf [(40, ZSub.orc), (35, ZSign.orc)] }) with nt := 9, own := [8], keep := fun k => (tlook [] k).getD [], cut := tlook [] }
noncomputable def cod : Code := (Go.Proofs.Try.f37.body).getD .skip
theorem nok : namesOk E cod = true := by kernel_rfl
theorem start (a1 : Bool) (a2 : List Int) (b1 : Bool) (b2 : List Int) : evalFn E Go.Proofs.Try.f37 cod [D.agg [S.sc (Value.bool a1), S.ints IntKind.u32 a2], D.agg [S.sc (Value.bool b1), S.ints IntKind.u32 b2]] = gif (Zok (a1, a2) ∧ Zok (b1, b2)) (gif (Zok (isNeg (zv (a1, a2) - zv (b1, b2)), dg (zv (a1, a2) - zv (b1, b2)).natAbs)) (some [D.s (S.sc (Value.int IntKind.i64 (cmpZ (zv (isNeg (zv (a1, a2) - zv (b1, b2)), dg (zv (a1, a2) - zv (b1, b2)).natAbs)) (0 : Int))))])) := (evalFn_J rfl nok _).trans (by kernel_rfl)
-- stuck: 0
end ZCmp
namespace ZCmp
noncomputable def sp (x y : Bool × List Int) : Prop × List D := (Zok x ∧ Zok y ∧ x.2.length < 549755813888 ∧ y.2.length < 549755813888, [.s (.sc (.int .i64 (cmpZ (zv x) (zv y))))])
theorem len_sub {x y : Bool × List Int} (hx : Zok x) (hy : Zok y) {n : Nat} (h1 : x.2.length < n) (h2 : y.2.length < n) : (dg (zv x - zv y).natAbs).length ≤ n := by
  have h3 : (zv x - zv y).natAbs ≤ val x.2 + val y.2 := by
    have := zv_abs x
    have := zv_abs y
    omega
  have h4 := len_dg_mono h3
  have h5 := len_dg_add (val x.2) (val y.2)
  rw [nrm_len hx.1, nrm_len hy.1] at h5
  omega
theorem spec (x y : Bool × List Int) (h : (sp x y).1) : evalFn E Try.f37 cod [(pG (.pair sB (sI .u32))).put x, (pG (.pair sB (sI .u32))).put y] = some (sp x y).2 := by
  refine (start x.1 x.2 y.1 y.2).trans ?_
  obtain ⟨hx, hy, h1, h2⟩ := h
  rw [gP ⟨hx, hy⟩, gP (zok_zD (len_sub hx hy h1 h2)), zv_zD, cmpZ_sub]
  rfl

noncomputable def orc : Orc := orc2 (pG (.pair sB (sI .u32))) (pG (.pair sB (sI .u32))) sp
theorem fnok : FnOk Try.prog E 37 Try.f37 cod := fnOk ty_ok mixed (callsOk_of _ rfl (orcs_cons ZSub.ok (orcs_cons ZSign.ok orcs_nil)) (ext_ok)) Try.func37 rfl rfl rfl
theorem ok : OrcOk Try.prog base.glob 37 orc := fnok.ok2 rfl spec
end ZCmp
end Go.Proofs.Ytnhebddoclhnnaa.W

/- gnomon/gnomonref04.Shl -/
namespace Go.Proofs.Ytnhebddoclhnnaa.W
open Go Go.Proofs.Ytnhebddoclhnnaa.AI Go.Proofs.Ytnhebddoclhnnaa.M
namespace ZShl
noncomputable def E : Env := { ({ base with C := callsOf [(11, Mk.orc), (14, Shl.orc)] }) with nt := 12, own := [], keep := fun k => (tlook [] k).getD [], cut := tlook [] }
noncomputable def cod : Code := (Go.Proofs.Try.f38.body).getD .skip
theorem nok : namesOk E cod = true := by kernel_rfl
theorem start (a1 : Bool) (a2 : List Int) (b : Int) : evalFn E Go.Proofs.Try.f38 cod [D.agg [S.sc (Value.bool a1), S.ints IntKind.u32 a2], D.s (S.sc (Value.int IntKind.i64 b))] = gif (Nrm a2 ∧ a2.length ≤ (1099511627776 : Nat) ∧ b ≤ (1099511627776 : Int)) (gif (Dig (dg (val a2 * (2 : Nat) ^ b.toNat)) ∧ (dg (val a2 * (2 : Nat) ^ b.toNat)).length ≤ (4398046511104 : Nat)) (some [D.agg [S.sc (Value.bool (isNeg (zs a1 (val (dg (val a2 * (2 : Nat) ^ b.toNat)))))), S.ints IntKind.u32 (dg (zs a1 (val (dg (val a2 * (2 : Nat) ^ b.toNat)))).natAbs)]])) := (evalFn_J rfl nok _).trans (by kernel_rfl)
-- stuck: 0
end ZShl
namespace ZShl
noncomputable def sp (x : Bool × List Int) (k : Int) : Prop × List D := (Zok x ∧ k ≤ 1099511627776, [zD (zv x * 2 ^ k.toNat)])
theorem spec (x : Bool × List Int) (k : Int) (h : (sp x k).1) : evalFn E Try.f38 cod [(pG (.pair sB (sI .u32))).put x, (pN .i64).put k] = some (sp x k).2 := by
  refine (start x.1 x.2 k).trans ?_
  obtain ⟨hx, hk⟩ := h
  have l1 := hx.len
  have l2 := len_dg_shl (val x.2) k.toNat
  rw [nrm_len hx.1] at l2
  rw [gP ⟨hx.1, by omega, hk⟩, gP ⟨dig_dg _, by omega⟩, val_dg]
  show _ = some [zD (zv x * 2 ^ k.toNat)]
  have : zs x.1 (val x.2 * 2 ^ k.toNat) = zv x * 2 ^ k.toNat := by
    unfold zv zs
    cases x.1 <;> simp [Int.natCast_mul, Int.natCast_pow, Int.neg_mul]
  rw [this]
  rfl

noncomputable def orc : Orc := orc2 (pG (.pair sB (sI .u32))) (pN .i64) sp
theorem fnok : FnOk Try.prog E 38 Try.f38 cod := fnOk ty_ok mixed (callsOk_of _ rfl (orcs_cons Mk.ok (orcs_cons Shl.ok orcs_nil)) (ext_ok)) Try.func38 rfl rfl rfl
theorem ok : OrcOk Try.prog base.glob 38 orc := fnok.ok2 rfl spec
end ZShl
end Go.Proofs.Ytnhebddoclhnnaa.W

