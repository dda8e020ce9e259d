/- Texts of the claim on TurnMirrors, in their order: Ai11, Ai12, Ai13, Ai14, Ai15, Ai16, Ai17, Ai18, M0, M1, M6, M2, M3, Ty, M4, M5, FNForm, FMForm, FDNought, FDForm, FClone, FDTwin, FNTrim, FNTold. -/
import Derived.Scope
import Derived.Laws.Externs
import Derived.Test.YtknafopmgaolmaaGreatDoorProg
import Derived.KernelRfl
import Derived.Shelf.SlGeneric
import Derived.Ground.SlgnProg
import Derived.Shelf.SlicesE.Clone
import Derived.Test.YtknafopmgaolmaaGreatDoorBTurnMirrors1
/- Regions, second part: the operations in whatever order. -/
namespace Go.Proofs.YtknafopmgaolmaaGreatDoor.AI
open Go Go.RowKit

/-- Is a guarded operation carried out? -/
inductive Gd where
  | run
  | skip
  | bad
def gd (ops : Array Oper) (o : Oper) (fr : Nat → A) : Gd :=
  match o.guard with
  | none => .run
  | some (j, want) => match (ops[j]?).bind (·.dst) with
    | some d => match fr d with
      | .v (.one (.s (.sc (.bool b)))) => if b = want then .run else .skip
      | .tup [] => .skip
      | _ => .bad
    | none => .bad

/-- One operation as it went. -/
structure Dt where
  i : Nat
  o : Oper
  x : A
  u : Ups
  t : List Nat

def StepD (E : Env) (ops : Array Oper) (base : Nat) (d : Dt) (st st' : St) : Prop :=
  ops[d.i]? = some d.o ∧ dstOk E.nt d.o = true ∧
    ((gd ops d.o st.fr = .run ∧ eff E (base + 8 * d.i) d.o (evA E st.fr) st.hp = some (d.x, d.u) ∧ d.t = touches d.o (evA E st.fr) d.u) ∨ (gd ops d.o st.fr = .skip ∧ d.x = .tup [] ∧ d.u = [] ∧ d.t = [])) ∧
    st' = after d.o st d.x d.u

def RunD (E : Env) (ops : Array Oper) (base : Nat) : List Dt → St → St → Prop
  | [], st, st' => st = st'
  | d :: l, st, st' => ∃ st1, StepD E ops base d st st1 ∧ RunD E ops base l st1 st'

def Dt.told (d : Dt) : Rec := ⟨d.i, d.o, d.t, d.u.map (·.1)⟩
def PairOk (ops : Array Oper) (d d' : Dt) : Prop := indep ops d.told d'.i d'.o d'.t (d'.u.map (·.1)) = true

theorem sliceK_bind {R : Type} (len : Nat) (lo hi mx : Option A) (K : Nat → Nat → Option R) : sliceK len lo hi mx K = (sliceK len lo hi mx fun l h => some (l, h)).bind fun p => K p.1 p.2 := by
  unfold sliceK
  split
  · split <;> rfl
  · split
    · split <;> rfl
    · rfl
  · rfl

theorem idxK_bind {R : Type} (hp : Nat → Option Blk) (t : TI) (esz : Nat) (x : A) (n : Int) (K : A → Option R) : idxK hp t esz x n K = (idxK hp t esz x n some).bind K := by
  unfold idxK
  split
  · split
    · split <;> rfl
    · rfl
  · split
    · split
      · split <;> rfl
      · rfl
    · split <;> rfl
    · rfl
  · split
    · split
      · split <;> rfl
      · rfl
    · rfl
  · split
    · split <;> rfl
    · rfl
  · split
    · split <;> rfl
    · rfl
  · split
    · split
      · split <;> rfl
      · rfl
    · rfl
  · rfl

theorem callK_bind {R : Type} (E : Env) (id : Nat) (keep : Bool) (f : FuncId) (args : List A) (hp : Nat → Option Blk) (K : A → Ups → Option R) : callK E id keep f args hp K = (callK E id keep f args hp fun a u => some (a, u)).bind fun p => K p.1 p.2 := by
  unfold callK
  split
  · rfl
  · split
    · rfl
    · rename_i g rs _
      unfold gif
      simp only [shDs_eq]
      split
      · cases Nat.ble rs.length 8 with
        | false => rfl
        | true =>
          simp only [cond_true]
          split <;> rfl
      · rfl

theorem callIO_bind {R : Type} (E : Env) (ps : List Nat) (id : Nat) (keep : Bool) (f : FuncId) (args : List A) (hp : Nat → Option Blk) (K : A → Ups → Option R) : callIO E ps id keep f args hp K = (callIO E ps id keep f args hp fun a u => some (a, u)).bind fun p => K p.1 p.2 := by
  unfold callIO
  split
  · rfl
  · generalize (leqN _ _ && _) = bb
    cases bb with
    | false => rfl
    | true =>
      simp only [cond_true]
      split
      · rfl
      · unfold gif
        simp only [shDs_eq]
        split
        · generalize (Nat.ble _ _ && _ && _) = b2
          cases b2 with
          | false => rfl
          | true =>
            simp only [cond_true]
            split
            · rfl
            · split <;> rfl
        · rfl

theorem builtinK_bind {R : Type} (E : Env) (id : Nat) (b : Builtin) (args : List A) (tys : List TypeId) (hp : Nat → Option Blk) (K : A → Ups → Option R) : builtinK E id b args tys hp K = (builtinK E id b args tys hp fun a u => some (a, u)).bind fun p => K p.1 p.2 := by
  unfold builtinK
  split
  · split <;> rfl
  · split <;> rfl
  · split <;> rfl
  · split
    · split
      · split
        · split
          · split
            · split
              · generalize Nat.blt _ _ = bb
                cases bb with
                | true => rfl
                | false =>
                  simp only [cond_false]
                  split
                  · split <;> rfl
                  · rfl
              · rfl
            · split <;> rfl
            · rfl
          · rfl
        · rfl
      · rfl
    · rfl
  · split
    · split
      · split
        · split
          · split <;> rfl
          · rfl
        · split
          · split <;> rfl
          · rfl
        · rfl
      · rfl
    · rfl
  · rfl

theorem effK_bind {R : Type} (E : Env) (id : Nat) (o : Oper) (ev : Operand → A) (hp : Nat → Option Blk) (K : A → Ups → Option R) : effK E id o ev hp K = (eff E id o ev hp).bind fun p => K p.1 p.2 := by
  unfold eff effK
  split
  · rfl
  · rfl
  · split
    · split
      · rfl
      · rename_i t _ _ _ _; cases t <;> rfl
    · rfl
  · split <;> rfl
  · split
    · split <;> rfl
    · rfl
  · split
    · rw [fillK_bind]; conv => rhs; rw [fillK_bind]
      rw [Option.bind_assoc]; rfl
    · rw [fillK_bind]; conv => rhs; rw [fillK_bind]
      rw [Option.bind_assoc]; rfl
    · rfl
  · split
    · split
      · split
        · rw [fillK_bind]; conv => rhs; rw [fillK_bind]
          rw [Option.bind_assoc]
          congr 1
          funext r
          split
          · split <;> rfl
          · rfl
        · rfl
      · rfl
    · rfl
  · split
    · split
      · split
        · split <;> rfl
        · rfl
      · split <;> rfl
      · split <;> rfl
      · rfl
    · rfl
  · split
    · split
      · split
        · split <;> rfl
        · rfl
      · split
        · split <;> rfl
        · rfl
      · rfl
    · rfl
  · split
    · generalize boolT _ _ = bb
      cases bb with
      | true => simp only [cond_true]; rw [binK_bind]; conv => rhs; rw [binK_bind]
                rw [Option.bind_assoc]; rfl
      | false => rfl
    · split
      · split <;> rfl
      · rfl
    · rfl
  · split
    · rw [unK_bind]; conv => rhs; rw [unK_bind]
      rw [Option.bind_assoc]; rfl
    · rfl
  · split
    · rw [convK_bind]; conv => rhs; rw [convK_bind]
      rw [Option.bind_assoc]; rfl
    · rfl
  · split
    · split
      · split
        · split <;> rfl
        · rfl
      · rfl
    · rfl
  · split
    · split
      · split
        · split
          · rw [sliceK_bind]; conv => rhs; rw [sliceK_bind]
            rw [Option.bind_assoc]; rfl
          · rfl
        · rw [sliceK_bind]; conv => rhs; rw [sliceK_bind]
          rw [Option.bind_assoc]; rfl
        · rw [sliceK_bind]; conv => rhs; rw [sliceK_bind]
          rw [Option.bind_assoc]; rfl
        · rw [sliceK_bind]; conv => rhs; rw [sliceK_bind]
          rw [Option.bind_assoc]; rfl
        · rfl
      · split
        · split
          · rw [sliceK_bind]; conv => rhs; rw [sliceK_bind]
            rw [Option.bind_assoc]; rfl
          · rfl
        · rfl
      · rfl
    · rfl
  · split
    · split
      · split <;> rfl
      · split <;> rfl
      · rfl
    · rfl
  · split
    · split
      · split <;> rfl
      · rfl
    · rfl
  · split
    · split
      · split
        · split
          · rfl
          · rfl
          · rw [idxK_bind]; conv => rhs; rw [idxK_bind]
            rw [Option.bind_assoc]; rfl
        · rfl
      · split
        · rw [idxK_bind]; conv => rhs; rw [idxK_bind]
          rw [Option.bind_assoc]; rfl
        · rw [idxK_bind]; conv => rhs; rw [idxK_bind]
          rw [Option.bind_assoc]; rfl
        · rfl
      · rfl
    · rfl
  · split
    · split
      · split <;> rfl
      · rfl
    · split <;> rfl
    · rfl
  · split
    · split <;> rfl
    · rfl
  · split
    · split
      · unfold gif
        split <;> rfl
      · split
        · exact callK_bind _ _ _ _ _ _ _
        · exact callIO_bind _ _ _ _ _ _ _ _
    · rfl
  · exact builtinK_bind _ _ _ _ _ _ _
  · rfl

theorem upd_lit (fr : Nat → A) (d : Nat) (b : Bool) (h : fr d = scv (.bool b)) : upd fr d (scv (.bool b)) = fr := upd_self fr d _ h

/-- The operations' run, out of the abstract interpreter's answer. -/
theorem opsK_runs {R : Type} (E : Env) (draw : Bool) (ops : Array Oper) (base : Nat) (K : St → Option R) (r : R) : ∀ (l : List Oper) (i : Nat) (recs : List Rec) (st : St),
    (∀ (k : Nat) (o : Oper), l[k]? = some o → ops[i + k]? = some o) → opsK E draw ops base l i recs st K = some r →
    ∃ ds st', K st' = some r ∧ RunD E ops base ds st st' ∧ ds.map (·.i) = List.range' i l.length ∧
      (draw = true → (∀ rc ∈ recs, ∀ d ∈ ds, indep ops rc d.i d.o d.t (d.u.map (·.1)) = true) ∧ List.Pairwise (PairOk ops) ds ∧ ∀ d ∈ ds, edgesOk d.i d.o = true)
  | [], i, recs, st, _, h => ⟨[], st, h, rfl, rfl, fun _ => ⟨fun _ _ _ hd => (by cases hd), List.Pairwise.nil, fun _ hd => (by cases hd)⟩⟩
  | o :: l, i, recs, st, hl, h => by
    have hi : ops[i]? = some o := by simpa using hl 0 o rfl
    have hl' : ∀ (k : Nat) (o' : Oper), l[k]? = some o' → ops[i + 1 + k]? = some o' := fun k o' hk => by have := hl (k + 1) o' (by simpa using hk); rwa [show i + (k + 1) = i + 1 + k by omega] at this
    unfold opsK at h
    cases hdo : dstOk E.nt o && (!draw || edgesOk i o) with
    | false => rw [hdo] at h; cases h
    | true =>
      rw [hdo] at h
      simp only [cond_true] at h
      obtain ⟨hdst, hed⟩ := (Bool.and_eq_true _ _).mp hdo
      -- how one step goes on
      have go : ∀ (x : A) (u : Ups) (t : List Nat), StepD E ops base ⟨i, o, x, u, t⟩ st (after o st x u) →
          (bif !draw || recs.all fun r => indep ops r i o t (u.map (·.1)) then opsK E draw ops base l (i + 1) (⟨i, o, t, u.map (·.1)⟩ :: recs) (after o st x u) K else none) = some r →
          ∃ ds st', K st' = some r ∧ RunD E ops base ds st st' ∧ ds.map (·.i) = List.range' i (o :: l).length ∧
            (draw = true → (∀ rc ∈ recs, ∀ d ∈ ds, indep ops rc d.i d.o d.t (d.u.map (·.1)) = true) ∧ List.Pairwise (PairOk ops) ds ∧ ∀ d ∈ ds, edgesOk d.i d.o = true) := by
        intro x u t hs hk
        cases hc : !draw || recs.all fun r => indep ops r i o t (u.map (·.1)) with
        | false => rw [hc] at hk; cases hk
        | true =>
          rw [hc] at hk
          simp only [cond_true] at hk
          obtain ⟨ds, st', h1, h2, h3, h4⟩ := opsK_runs E draw ops base K r l (i + 1) _ _ hl' hk
          refine ⟨⟨i, o, x, u, t⟩ :: ds, st', h1, ⟨_, hs, h2⟩, by simp [h3, List.range'_succ], fun hdr => ?_⟩
          obtain ⟨h5, h6, h7⟩ := h4 hdr
          subst hdr
          simp only [Bool.not_true, Bool.false_or] at hc hed
          refine ⟨fun rc hrc d hd => ?_, List.pairwise_cons.2 ⟨fun d hd => (show indep ops ⟨i, o, t, u.map (·.1)⟩ d.i d.o d.t (d.u.map (·.1)) = true from h5 _ (List.mem_cons_self ..) d hd), h6⟩, fun d hd => ?_⟩
          · rcases List.mem_cons.1 hd with rfl | hd
            · exact List.all_eq_true.1 hc rc hrc
            · exact h5 rc (by simp [hrc]) d hd
          · rcases List.mem_cons.1 hd with rfl | hd
            · exact hed
            · exact h7 d hd
      split at h
      · rename_i hg
        rw [effK_bind] at h
        obtain ⟨⟨x, u⟩, he, h⟩ := Option.bind_eq_some_iff.1 h
        exact go x u _ ⟨hi, hdst, .inl ⟨by unfold gd; rw [hg], he, rfl⟩, rfl⟩ h
      · rename_i j want hg
        split at h
        · rename_i d hd
          split at h
          · rename_i b hb
            have e0 : upd st.fr d (scv (.bool b)) = st.fr := upd_lit st.fr d b hb
            have hgd : ∀ w, (b == want) = w → gd ops o st.fr = if w = true then .run else .skip := by
              intro w hw
              unfold gd
              rw [hg]
              simp only [hd, hb]
              subst hw
              by_cases hbw : b = want <;> simp [hbw]
            have key : (bif b == want then
                effK E (base + 8 * i) o (evA E st.fr) st.hp fun a u =>
                  bif !draw || recs.all fun r => indep ops r i o (touches o (evA E st.fr) u) (u.map (·.1)) then opsK E draw ops base l (i + 1) (⟨i, o, touches o (evA E st.fr) u, u.map (·.1)⟩ :: recs) (after o st a u) K else none
              else bif !draw || recs.all fun r => indep ops r i o [] [] then opsK E draw ops base l (i + 1) (⟨i, o, [], []⟩ :: recs) (after o st (.tup []) []) K else none) = some r := by
              cases b
              · simp only [cond_false, e0] at h; exact h
              · simp only [cond_true, e0] at h; exact h
            cases hbw : b == want with
            | true =>
              rw [hbw] at key
              simp only [cond_true] at key
              rw [effK_bind] at key
              obtain ⟨⟨x, u⟩, he, key⟩ := Option.bind_eq_some_iff.1 key
              exact go x u _ ⟨hi, hdst, .inl ⟨by rw [hgd true hbw]; rfl, he, rfl⟩, rfl⟩ key
            | false =>
              rw [hbw] at key
              simp only [cond_false] at key
              exact go (.tup []) [] [] ⟨hi, hdst, .inr ⟨by rw [hgd false hbw]; rfl, rfl, rfl, rfl⟩, rfl⟩ key
          · rename_i hb
            exact go (.tup []) [] [] ⟨hi, hdst, .inr ⟨by unfold gd; rw [hg]; simp only [hd, hb], rfl, rfl, rfl⟩, rfl⟩ h
          · cases h
        · cases h

end Go.Proofs.YtknafopmgaolmaaGreatDoor.AI

/- Regions, last part: two operations that may come in either order; every order; the region's soundness. -/
namespace Go.Proofs.YtknafopmgaolmaaGreatDoor.AI
open Go Go.RowKit

theorem disj_spec {xs ys : List Nat} (h : disj xs ys = true) {i : Nat} (hx : i ∈ xs) : i ∉ ys := by
  intro hy
  have := List.all_eq_true.1 h i hx
  simp at this
  exact this hy

theorem applyUps_other {u : Ups} {hp : Nat → Option Blk} {i : Nat} (h : i ∉ u.map (·.1)) : applyUps u hp i = hp i := by
  induction u generalizing hp with
  | nil => rfl
  | cons p u ih =>
    obtain ⟨j, b⟩ := p
    simp only [List.map_cons, List.mem_cons, not_or] at h
    rw [applyUps, ih h.2, upd_ne _ _ h.1]

theorem applyUps_here {u : Ups} {hp hp' : Nat → Option Blk} {i : Nat} (h : i ∈ u.map (·.1)) : applyUps u hp i = applyUps u hp' i := by
  induction u generalizing hp hp' with
  | nil => cases h
  | cons p u ih =>
    obtain ⟨j, b⟩ := p
    simp only [applyUps]
    by_cases hi : i ∈ u.map (·.1)
    · exact ih hi
    · have e : i = j := by simpa [hi] using h
      subst e
      rw [applyUps_other hi, applyUps_other hi, upd_same, upd_same]

theorem applyUps_comm {u v : Ups} {hp : Nat → Option Blk} (h : disj (u.map (·.1)) (v.map (·.1)) = true) : applyUps u (applyUps v hp) = applyUps v (applyUps u hp) := by
  funext i
  by_cases hu : i ∈ u.map (·.1)
  · have hv : i ∉ v.map (·.1) := disj_spec h hu
    rw [applyUps_other hv]
    exact applyUps_here hu
  · rw [applyUps_other hu]
    by_cases hv : i ∈ v.map (·.1)
    · exact applyUps_here hv
    · rw [applyUps_other hv, applyUps_other hv, applyUps_other hu]

theorem putA_ne {o : Oper} {x : A} {fr : Nat → A} {t : Nat} (h : o.dst ≠ some t) : putA o x fr t = fr t := by
  unfold putA
  cases hd : o.dst with
  | some d => exact upd_ne _ _ (fun e => h (by rw [hd, e]))
  | none => rfl

theorem putA_comm {o o' : Oper} {x x' : A} {fr : Nat → A} (h : ∀ d, o.dst = some d → o'.dst ≠ some d) : putA o x (putA o' x' fr) = putA o' x' (putA o x fr) := by
  unfold putA
  cases hd : o.dst with
  | none => rfl
  | some d =>
    cases hd' : o'.dst with
    | none => rfl
    | some d' =>
      have hne : d ≠ d' := fun e => h d hd (by rw [hd', e])
      funext t
      simp only
      by_cases h1 : t = d
      · subst h1; rw [upd_same, upd_ne _ _ hne, upd_same]
      · rw [upd_ne _ _ h1]
        by_cases h2 : t = d'
        · subst h2; rw [upd_same, upd_same]
        · rw [upd_ne _ _ h2, upd_ne _ _ h2, upd_ne _ _ h1]

/-- Either may come first. -/
def Ind (ops : Array Oper) (p q : Dt) : Prop := p.o.apart ops q.o = true ∧ disj (p.u.map (·.1)) q.t = true ∧ disj (q.u.map (·.1)) p.t = true

theorem Ind.symm {ops : Array Oper} {p q : Dt} (h : Ind ops p q) : Ind ops q p := by
  refine ⟨?_, h.2.2, h.2.1⟩
  obtain ⟨h1, h2, h3⟩ := Oper.apart_spec h.1
  unfold Oper.apart
  rw [Bool.and_eq_true]
  constructor
  · cases hq : q.o.dst with
    | none => rfl
    | some d =>
      simp only [Bool.and_eq_true, Bool.not_eq_true', bne_iff_ne, ne_eq]
      refine ⟨by simpa using h3 d hq, fun hp => ?_⟩
      exact h2 d hp hq
  · cases hp : p.o.dst with
    | none => rfl
    | some d => simpa using h1 d hp

section
variable {E : Env} {ops : Array Oper} {base : Nat}

theorem mem_operands {o : Oper} {t : Tmp} (h : Operand.tmp t ∈ o.op.operands.toList) : t ∈ o.looksAt ops := by
  unfold Oper.looksAt
  exact List.mem_append.2 (.inl (List.mem_filterMap.2 ⟨_, h, rfl⟩))

theorem evA_same {fr fr' : Nat → A} {o : Oper} (h : ∀ t, t ∈ o.looksAt ops → fr t = fr' t) {x : Operand} (hx : x ∈ o.op.operands.toList) : evA E fr x = evA E fr' x := by
  cases x with
  | tmp t => exact h t (mem_operands hx)
  | _ => rfl

theorem gd_same {fr fr' : Nat → A} {o : Oper} (h : ∀ t, t ∈ o.looksAt ops → fr t = fr' t) : gd ops o fr = gd ops o fr' := by
  unfold gd
  cases hg : o.guard with
  | none => rfl
  | some p =>
    obtain ⟨j, want⟩ := p
    simp only
    cases hd : (ops[j]?).bind (·.dst) with
    | none => rfl
    | some d =>
      have : fr d = fr' d := h d (by
        unfold Oper.looksAt
        rw [hg]
        exact List.mem_append.2 (.inr (by simp [hd])))
      simp only [this]

/-- An operation does the same where what it looks at is the same. -/
theorem StepD.same {p : Dt} {st st1 : St} (hfr : ∀ t, t ∈ p.o.looksAt ops → st.fr t = st1.fr t) (hhp : ∀ i, i ∈ p.t → st.hp i = st1.hp i) {st2 : St} (h : StepD E ops base p st1 st2) : StepD E ops base p st (after p.o st p.x p.u) := by
  obtain ⟨h1, h2, h3, _⟩ := h
  refine ⟨h1, h2, ?_, rfl⟩
  rcases h3 with ⟨hg, he, ht⟩ | ⟨hg, hx, hu, ht⟩
  · have hev : ∀ x, x ∈ p.o.op.operands.toList → evA E st1.fr x = evA E st.fr x := fun x hx => (evA_same (ops := ops) hfr hx).symm
    refine .inl ⟨by rw [gd_same (ops := ops) hfr]; exact hg, ?_, ?_⟩
    · rw [← he]
      exact (effK_loc hev (fun x hx i hi => (hhp i (by rw [ht]; exact List.mem_append.2 (.inl (List.mem_flatMap.2 ⟨x, hx, hi⟩)))).symm)).symm
    · rw [ht]
      unfold touches
      congr 1
      rw [List.flatMap_def, List.flatMap_def]
      congr 1
      exact List.map_congr_left fun x hx => by rw [hev x hx]
  · exact .inr ⟨by rw [gd_same (ops := ops) hfr]; exact hg, hx, hu, ht⟩

theorem after_fr_same {q : Dt} {st : St} {o : Oper} (h : ∀ d, q.o.dst = some d → d ∉ o.looksAt ops) : ∀ t, t ∈ o.looksAt ops → st.fr t = (after q.o st q.x q.u).fr t := by
  intro t ht
  exact (putA_ne (fun e => h t e ht)).symm

theorem ups_in_t {p : Dt} {st st' : St} (h : StepD E ops base p st st') : ∀ i, i ∈ p.u.map (·.1) → i ∈ p.t := by
  intro i hi
  obtain ⟨_, _, h3, _⟩ := h
  rcases h3 with ⟨_, _, ht⟩ | ⟨_, _, hu, _⟩
  · rw [ht]; exact List.mem_append.2 (.inr hi)
  · rw [hu] at hi; cases hi

/-- Two neighbours change places. -/
theorem RunD.swap {p q : Dt} {l : List Dt} {st stf : St} (hi : Ind ops q p) (h : RunD E ops base (q :: p :: l) st stf) : RunD E ops base (p :: q :: l) st stf := by
  obtain ⟨st1, hq, st2, hp, hl⟩ := h
  obtain ⟨a1, a2, a3⟩ := Oper.apart_spec hi.1
  have e1 : st1 = after q.o st q.x q.u := hq.2.2.2
  have e2 : st2 = after p.o st1 p.x p.u := hp.2.2.2
  have hp' : StepD E ops base p st (after p.o st p.x p.u) := by
    refine StepD.same (st1 := st1) ?_ ?_ hp
    · rw [e1]; exact after_fr_same a1
    · intro i hi'
      rw [e1]
      exact (applyUps_other (fun hm => disj_spec hi.2.1 hm hi')).symm
  have hq' : StepD E ops base q (after p.o st p.x p.u) (after q.o (after p.o st p.x p.u) q.x q.u) := by
    refine StepD.same (st1 := st) ?_ ?_ hq
    · intro t ht; exact (after_fr_same a3 t ht).symm
    · intro i hi'
      exact applyUps_other (fun hm => disj_spec hi.2.2 hm hi')
  have e3 : after q.o (after p.o st p.x p.u) q.x q.u = st2 := by
    rw [e2, e1]
    unfold after
    simp only
    rw [putA_comm (o := q.o) (o' := p.o) (fun d hd => a2 d hd), applyUps_comm]
    have hu := ups_in_t hp
    unfold disj
    rw [List.all_eq_true]
    intro i hi'
    have := disj_spec hi.2.1 hi'
    simp only [Bool.not_eq_true', List.elem_eq_mem, decide_eq_false_iff_not]
    exact fun hm => this (hu i hm)
  exact ⟨_, hp', _, hq', by rw [e3]; exact hl⟩

/-- One that nothing ahead of it hinders comes first. -/
theorem RunD.front {p : Dt} {l2 : List Dt} {stf : St} : ∀ {l1 : List Dt} {st : St}, (∀ q ∈ l1, Ind ops q p) → RunD E ops base (l1 ++ p :: l2) st stf → RunD E ops base (p :: (l1 ++ l2)) st stf
  | [], st, _, h => h
  | q :: l1, st, hi, h => by
    obtain ⟨st1, hq, h⟩ := h
    have ih := RunD.front (fun q' hq' => hi q' (List.mem_cons_of_mem _ hq')) h
    exact RunD.swap (hi q (List.mem_cons_self ..)) ⟨st1, hq, ih⟩

end

/-- Which numbers for blocks are taken in the middle of a region. -/
def alR (base : Nat) (done : Nat → Prop) (id : Nat) : Prop := id < base ∨ ∃ i, done i ∧ base + 8 * i ≤ id ∧ id < base + 8 * i + 8

section
variable {P : Program} {E : Env} {X : Nat → Prop} {w0 : Old} {ops : Array Oper} {base : Nat}

theorem Sim.al_mono {ρ : Nat → Nat} {al al' : Nat → Prop} {fr : Nat → A} {hp : Nat → Option Blk} {a : Act} {w : World} (h : Sim E X w0 ρ al fr hp a w) (hal : ∀ i, al i → al' i) : Sim E X w0 ρ al' fr hp a w :=
  { fr := h.fr, sz := h.sz, nod := h.nod, blk := h.blk, inj := h.inj, alh := fun i b hb => hal i (h.alh i b hb), alr := fun t i hi => hal i (h.alr t i hi), below := h.below, x0 := h.x0, glob := h.glob, mg := h.mg, al0 := fun i hi => hal i (h.al0 i hi), pin := h.pin }

/-- The guard, in the model. -/
theorem gd_wanted {ρ : Nat → Nat} {al : Nat → Prop} {fr : Nat → A} {hp : Nat → Option Blk} {a : Act} {w : World} (h : Sim E X w0 ρ al fr hp a w) {o : Oper} :
    (gd ops o fr = .run → Region.wanted o (yielded ops a.tmps) = true) ∧ (gd ops o fr = .skip → Region.wanted o (yielded ops a.tmps) = false) := by
  unfold gd Region.wanted
  cases hg : o.guard with
  | none => exact ⟨fun _ => rfl, fun h => by cases h⟩
  | some p =>
    obtain ⟨j, want⟩ := p
    simp only
    cases hd : (ops[j]?).bind (·.dst) with
    | none => exact ⟨fun h => (by cases h), fun h => (by cases h)⟩
    | some d =>
      simp only
      split
      · rename_i b hb
        have hr := h.fr d
        rw [hb] at hr
        have hv : a.tmps.getD d undef = .bool b := hr.1
        have hy : yielded ops a.tmps j = some b := by
          unfold yielded
          rw [hd]
          simp only [Option.bind_some]
          have : a.tmps[d]? = some (.bool b) := by
            rw [Array.getD_eq_getD_getElem?] at hv
            cases hq : a.tmps[d]? with
            | none => rw [hq] at hv; simp [undef] at hv
            | some v => rw [hq] at hv; simp at hv; rw [hv]
          rw [this]
        rw [hy]
        by_cases hbw : b = want
        · simp [hbw]
        · simp [hbw]
      · rename_i hb
        have hr := h.fr d
        rw [hb] at hr
        obtain ⟨arr, hv, _⟩ := hr
        have hy : yielded ops a.tmps j = none := by
          unfold yielded
          rw [hd]
          simp only [Option.bind_some]
          rw [Array.getD_eq_getD_getElem?] at hv
          cases hq : a.tmps[d]? with
          | none => rfl
          | some v => rw [hq] at hv; simp at hv; rw [hv]
        rw [hy]
        exact ⟨fun h => (by cases h), fun _ => rfl⟩
      · exact ⟨fun h => (by cases h), fun h => (by cases h)⟩

/-- One operation of a region, in the model. -/
theorem StepD.wp (hT : TyOk P E.T) (hC : CallsOk P E) {ρ : Nat → Nat} {done : Nat → Prop} {a : Act} {w : World} {st st' : St} {d : Dt} (hs : StepD E ops base d st st') (h : Sim E X w0 ρ (alR base done) st.fr st.hp a w) (hnd : ¬ done d.i)
    (K : Act → World → Prop) (Q : Exit → Act → World → Prop) (hK : ∀ ρ' a' w', Sim E X w0 ρ' (alR base fun i => done i ∨ i = d.i) st'.fr st'.hp a' w' → K a' w') : wpOp P ops Q d.i K a w := by
  obtain ⟨h1, h2, h3, rfl⟩ := hs
  unfold wpOp
  rw [h1]
  simp only
  have hmono : ∀ i, alNew (alR base done) (base + 8 * d.i) i → alR base (fun i => done i ∨ i = d.i) i := by
    rintro i ((hi | ⟨j, hj, hj2⟩) | hi)
    · exact .inl hi
    · exact .inr ⟨j, .inl hj, hj2⟩
    · exact .inr ⟨d.i, .inr rfl, hi⟩
  rcases h3 with ⟨hg, he, ht⟩ | ⟨hg, hx, hu, ht⟩
  · rw [if_pos ((gd_wanted h).1 hg)]
    refine .inl (step_sound h h2 hT hC ?_ he K Q (fun ρ' v w' hsim => hK ρ' _ w' (hsim.al_mono hmono)))
    rintro j hj (hlt | ⟨i, hi, hi2⟩)
    · omega
    · have : i = d.i := by omega
      subst this
      exact hnd hi
  · rw [if_neg (by rw [(gd_wanted h).2 hg]; simp)]
    rw [hx, hu] at hK
    exact hK ρ _ w ((h.pure h2 (x := .tup []) (v := undef) ⟨#[], rfl, rfl, fun i y u hy => by cases hy⟩ (by simp [refs])).al_mono (fun i hi => hmono i (.inl hi)))

/-- In the order of the text. -/
theorem RunD.wpOps (hT : TyOk P E.T) (hC : CallsOk P E) (Q : Exit → Act → World → Prop) : ∀ (ds : List Dt) (done : Nat → Prop) (ρ : Nat → Nat) (a : Act) (w : World) (st st' : St), RunD E ops base ds st st' → Sim E X w0 ρ (alR base done) st.fr st.hp a w →
    (∀ d ∈ ds, ¬ done d.i) → (ds.map (·.i)).Nodup → (∀ ρ' a' w', Sim E X w0 ρ' (alR base fun i => done i ∨ i ∈ ds.map (·.i)) st'.fr st'.hp a' w' → Q .normal a' w') →
    Go.wpOps P ops Q (ds.map (·.i)) a w
  | [], done, ρ, a, w, st, st', h, hs, _, _, hQ => by
    cases h
    exact hQ ρ a w (hs.al_mono (fun i hi => hi.imp id fun ⟨j, hj, hj2⟩ => ⟨j, .inl hj, hj2⟩))
  | d :: ds, done, ρ, a, w, st, st', h, hs, hnd, hno, hQ => by
    obtain ⟨st1, hd, hr⟩ := h
    rw [List.map_cons, wpOps_cons]
    rw [List.map_cons, List.nodup_cons] at hno
    refine hd.wp hT hC hs (hnd d (List.mem_cons_self ..)) _ _ (fun ρ' a' w' hs' => ?_)
    refine RunD.wpOps hT hC Q ds _ ρ' a' w' st1 st' hr hs' (fun d' hd' hdone => ?_) hno.2 (fun ρ2 a2 w2 hs2 => hQ ρ2 a2 w2 (hs2.al_mono ?_))
    · rcases hdone with hdone | hdone
      · exact hnd d' (List.mem_cons_of_mem _ hd') hdone
      · exact hno.1 (List.mem_map.2 ⟨d', hd', hdone⟩)
    · rintro i (hi | ⟨j, hj, hj2⟩)
      · exact .inl hi
      · refine .inr ⟨j, ?_, hj2⟩
        rcases hj with (hj | hj) | hj
        · exact .inl hj
        · exact .inr (by rw [List.map_cons, hj]; exact List.mem_cons_self ..)
        · exact .inr (by rw [List.map_cons]; exact List.mem_cons_of_mem _ hj)

theorem PairOk.ind {p q : Dt} (h : PairOk ops p q) (hne : ¬ (q.o.after.any fun e => Region.binds .any e && e.on == p.i) = true) (hne2 : ¬ befB ops p.i 3 q.o = true) : Ind ops p q := by
  unfold PairOk indep at h
  rw [Bool.or_eq_true, Bool.or_eq_true] at h
  rcases h with (h | h) | h
  · exact absurd h hne
  · simp only [Bool.and_eq_true] at h
    exact ⟨h.1.1, h.1.2, h.2⟩
  · exact absurd h hne2

/-- What is done lies below what is done. -/
def Closed (ops : Array Oper) (listed : Array Bool) : Prop := ∀ (j : Nat) (o : Oper), listed.getD j false = true → ops[j]? = some o → o.after.all (fun e => !Region.binds .any e || listed.getD e.on false) = true
theorem Closed.bef {listed : Array Bool} (hc : Closed ops listed) {j : Nat} : ∀ (n : Nat) (o : Oper), o.after.all (fun e => !Region.binds .any e || listed.getD e.on false) = true → befB ops j n o = true → listed.getD j false = true
  | 0, _, _, h => by cases h
  | n + 1, o, ha, h => by
    unfold befB at h
    rw [Array.any_eq_true'] at h
    obtain ⟨e, he, hen⟩ := h
    rw [Bool.and_eq_true] at hen
    rw [Array.all_eq_true_iff_forall_mem] at ha
    have h1 := ha e he
    rw [hen.1] at h1
    simp only [Bool.not_true, Bool.false_or] at h1
    have h2 := hen.2
    rw [Bool.or_eq_true] at h2
    rcases h2 with h2 | h2
    · have : e.on = j := by simpa using h2
      rw [← this]; exact h1
    · cases ho : ops[e.on]? with
      | none => rw [ho] at h2; cases h2
      | some o' =>
        rw [ho] at h2
        exact hc.bef n o' (hc e.on o' h1 ho) h2

/-- IN WHATEVER ORDER. -/
theorem RunD.wpAny (hT : TyOk P E.T) (hC : CallsOk P E) (Q : Exit → Act → World → Prop) (n : Nat) (hn : n = ops.size) : ∀ (fuel : Nat) (ds : List Dt) (listed : Array Bool) (ρ : Nat → Nat) (a : Act) (w : World) (st st' : St), ds.length = fuel → listed.size = n →
    (∀ i, i ∈ ds.map (·.i) ↔ i < n ∧ listed.getD i true = false) → (ds.map (·.i)).Pairwise (· < ·) → List.Pairwise (PairOk ops) ds → (∀ d ∈ ds, edgesOk d.i d.o = true) → Closed ops listed →
    RunD E ops base ds st st' → Sim E X w0 ρ (alR base fun i => listed.getD i false = true) st.fr st.hp a w →
    (∀ ρ' a' w', Sim E X w0 ρ' (alR base fun i => i < n) st'.fr st'.hp a' w' → Q .normal a' w') →
    Go.wpAny P .any ops Q fuel listed a w := by
  intro fuel
  induction fuel with
  | zero =>
    intro ds listed ρ a w st st' hlen hls hmem _ _ _ _ hrun hs hQ
    obtain rfl : ds = [] := List.eq_nil_of_length_eq_zero hlen
    cases hrun
    have hall : ∀ i, i < n → listed.getD i true = true := by
      intro i hi
      cases hq : listed.getD i true with
      | true => rfl
      | false => exact absurd ((hmem i).2 ⟨hi, hq⟩) (by simp)
    refine ⟨?_, hQ ρ a w (hs.al_mono ?_)⟩
    · unfold Region.ready
      rw [List.filter_eq_nil_iff]
      intro i hi
      rw [List.mem_range, ← hn] at hi
      simp [hall i hi]
    · rintro i (hi | ⟨j, hj, hj2⟩)
      · exact .inl hi
      · refine .inr ⟨j, ?_, hj2⟩
        rcases Nat.lt_or_ge j n with h | h
        · exact h
        · rw [Array.getD_eq_getD_getElem?, Array.getElem?_eq_none (by omega)] at hj; cases hj
  | succ fuel ih =>
    intro ds listed ρ a w st st' hlen hls hmem hord hpw hedge hcl hrun hs hQ
    have hget : ∀ d ∈ ds, ops[d.i]? = some d.o := by
      have : ∀ (l : List Dt) (s s' : St), RunD E ops base l s s' → ∀ d ∈ l, ops[d.i]? = some d.o := by
        intro l
        induction l with
        | nil => intro s s' _ d hd; cases hd
        | cons d l ih =>
          intro s s' h d' hd'
          obtain ⟨s1, h1, h2⟩ := h
          rcases List.mem_cons.1 hd' with rfl | hd'
          · exact h1.1
          · exact ih s1 s' h2 d' hd'
      exact this ds st st' hrun
    have hready : ∀ i, i ∈ Region.ready .any ops listed ↔ i < n ∧ listed.getD i true = false ∧ ∃ o, ops[i]? = some o ∧ o.after.all (fun e => !Region.binds .any e || listed.getD e.on false) = true := by
      intro i
      unfold Region.ready
      rw [List.mem_filter, List.mem_range, ← hn]
      constructor
      · rintro ⟨h1, h2⟩
        rw [Bool.and_eq_true] at h2
        refine ⟨h1, by simpa using h2.1, ?_⟩
        cases ho : ops[i]? with
        | none => rw [ho] at h2; simp at h2
        | some o => exact ⟨o, rfl, by have := h2.2; rw [ho] at this; simpa using this⟩
      · rintro ⟨h1, h2, o, ho, h3⟩
        refine ⟨h1, ?_⟩
        rw [Bool.and_eq_true]
        exact ⟨by simp [h2], by rw [ho]; simpa using h3⟩
    refine ⟨fun hnil => ?_, fun i hi => ?_⟩
    · -- there is always one that may come
      exfalso
      match ds, hlen with
      | d :: ds, _ =>
        have hd : d.i < n ∧ listed.getD d.i true = false := (hmem d.i).1 (List.mem_cons_self ..)
        have : d.i ∈ Region.ready .any ops listed := by
          refine (hready d.i).2 ⟨hd.1, hd.2, d.o, hget d (List.mem_cons_self ..), ?_⟩
          have he := hedge d (List.mem_cons_self ..)
          unfold edgesOk at he
          rw [Array.all_eq_true_iff_forall_mem] at he ⊢
          intro e hem
          have := he e hem
          rw [Bool.or_eq_true] at this ⊢
          rcases this with h | h
          · exact .inl h
          · right
            have hlt : e.on < d.i := Nat.le_of_ble_eq_true h
            cases hq : listed.getD e.on false with
            | true => rfl
            | false =>
              have hq' : listed.getD e.on true = false := by
                rw [Array.getD_eq_getD_getElem?] at hq ⊢
                rw [Array.getElem?_eq_getElem (by omega)] at hq ⊢
                exact hq
              have hm := (hmem e.on).2 ⟨by omega, hq'⟩
              rw [List.map_cons, List.mem_cons] at hm
              rw [List.map_cons, List.pairwise_cons] at hord
              rcases hm with hm | hm
              · omega
              · have := hord.1 _ hm; omega
        rw [hnil] at this
        cases this
    · obtain ⟨h1, h2, o, ho, h3⟩ := (hready i).1 hi
      have him := (hmem i).2 ⟨h1, h2⟩
      obtain ⟨p, hp, hpi⟩ := List.mem_map.1 him
      obtain ⟨l1, l2, rfl⟩ := List.append_of_mem hp
      have hpo : p.o = o := by have := hget p hp; rw [hpi, ho] at this; exact (Option.some.inj this).symm
      have hind : ∀ q ∈ l1, Ind ops q p := by
        intro q hq
        have hpq : PairOk ops q p := (List.pairwise_append.1 hpw).2.2 q hq p (List.mem_cons_self ..)
        have hnl : ¬ listed.getD q.i false = true := by
          have hqm := (hmem q.i).1 (List.mem_map.2 ⟨q, by simp [hq], rfl⟩)
          have h4 := hqm.2
          rw [Array.getD_eq_getD_getElem?, Array.getElem?_eq_getElem (by omega)] at h4
          rw [Array.getD_eq_getD_getElem?, Array.getElem?_eq_getElem (by omega)]
          rw [Option.getD_some] at h4 ⊢
          rw [h4]; simp
        refine hpq.ind (fun hany => ?_) (fun hb => hnl (hcl.bef 3 p.o (by rw [hpo]; exact h3) hb))
        rw [Array.any_eq_true'] at hany
        obtain ⟨e, he, hen⟩ := hany
        rw [Bool.and_eq_true] at hen
        rw [Array.all_eq_true_iff_forall_mem] at h3
        have := h3 e (by rw [← hpo]; exact he)
        rw [hen.1] at this
        simp only [Bool.not_true, Bool.false_or] at this
        have hqi : e.on = q.i := by simpa using hen.2
        have hqm := (hmem q.i).1 (List.mem_map.2 ⟨q, by simp [hq], rfl⟩)
        rw [hqi] at this
        rw [Array.getD_eq_getD_getElem?, Array.getElem?_eq_getElem (by omega)] at this
        have h4 := hqm.2
        rw [Array.getD_eq_getD_getElem?, Array.getElem?_eq_getElem (by omega)] at h4
        rw [Option.getD_some] at this h4
        rw [this] at h4; cases h4
      obtain ⟨st1, hstep, hrest⟩ := RunD.front hind hrun
      rw [← hpi]
      have hpl : listed.getD p.i false = false := by
        have := h2
        rw [← hpi] at this
        rw [Array.getD_eq_getD_getElem?, Array.getElem?_eq_getElem (by omega)] at this ⊢
        exact this
      refine hstep.wp hT hC hs (by simp [hpl]) _ _ (fun ρ' a' w' hs' => ?_)
      have hnodup : ∀ x ∈ (l1 ++ l2).map (·.i), x ≠ p.i := by
        intro x hx
        rw [List.map_append, List.map_cons, List.pairwise_append] at hord
        rw [List.map_append, List.mem_append] at hx
        rcases hx with hx | hx
        · have := hord.2.2 x hx p.i (List.mem_cons_self ..); omega
        · have := (List.pairwise_cons.1 hord.2.1).1 x hx; omega
      have hcl' : Closed ops (listed.setIfInBounds p.i true) := by
        have hmono : ∀ k, listed.getD k false = true → (listed.setIfInBounds p.i true).getD k false = true := by
          intro k hk
          rw [Array.getD_eq_getD_getElem?, Array.getElem?_setIfInBounds]
          by_cases hkp : p.i = k
          · rw [if_pos hkp, if_pos (by omega)]; rfl
          · rw [if_neg hkp, ← Array.getD_eq_getD_getElem?]; exact hk
        have hup : ∀ (o' : Oper), o'.after.all (fun e => !Region.binds .any e || listed.getD e.on false) = true → o'.after.all (fun e => !Region.binds .any e || (listed.setIfInBounds p.i true).getD e.on false) = true := by
          intro o' ho'
          rw [Array.all_eq_true_iff_forall_mem] at ho' ⊢
          intro e he
          have := ho' e he
          rw [Bool.or_eq_true] at this ⊢
          exact this.imp id (hmono _)
        intro j o' hj ho'
        by_cases hjp : p.i = j
        · have : o' = o := by rw [← hjp, hpi, ho] at ho'; exact (Option.some.inj ho').symm
          rw [this]; exact hup o h3
        · rw [Array.getD_eq_getD_getElem?, Array.getElem?_setIfInBounds, if_neg hjp, ← Array.getD_eq_getD_getElem?] at hj
          exact hup o' (hcl j o' hj ho')
      refine ih (l1 ++ l2) _ ρ' a' w' st1 st' (by simp at hlen ⊢; omega) (by simpa using hls) ?_ ?_ ?_ ?_ hcl' hrest (hs'.al_mono ?_) hQ
      · intro x
        have hx0 := hmem x
        rw [List.map_append, List.map_cons, List.mem_append, List.mem_cons] at hx0
        rw [List.map_append, List.mem_append]
        rw [Array.getD_eq_getD_getElem?, Array.getElem?_setIfInBounds]
        constructor
        · intro hx
          have hne := hnodup x (by rw [List.map_append, List.mem_append]; exact hx)
          have := hx0.1 (hx.imp id .inr)
          refine ⟨this.1, ?_⟩
          rw [if_neg (fun e => hne e.symm), ← Array.getD_eq_getD_getElem?]
          exact this.2
        · rintro ⟨hxn, hxl⟩
          by_cases hxp : p.i = x
          · rw [if_pos hxp, if_pos (by omega)] at hxl; simp at hxl
          · rw [if_neg hxp, ← Array.getD_eq_getD_getElem?] at hxl
            rcases hx0.2 ⟨hxn, hxl⟩ with h | h | h
            · exact .inl h
            · exact absurd h.symm hxp
            · exact .inr h
      · exact hord.sublist (by simp)
      · exact hpw.sublist (by simp)
      · exact fun d hd => hedge d (by rcases List.mem_append.1 hd with h | h <;> simp [h])
      · rintro x (hx | ⟨j, hj, hj2⟩)
        · exact .inl hx
        · refine .inr ⟨j, ?_, hj2⟩
          show (listed.setIfInBounds p.i true).getD j false = true
          rw [Array.getD_eq_getD_getElem?, Array.getElem?_setIfInBounds]
          rcases hj with hj | hj
          · by_cases hjp : p.i = j
            · rw [if_pos hjp, if_pos (by omega)]; rfl
            · rw [if_neg hjp, ← Array.getD_eq_getD_getElem?]; exact hj
          · rw [if_pos hj.symm, if_pos (by omega)]; rfl

/-- A REGION, whether it draws its order or not. -/
theorem region_sound (hT : TyOk P E.T) (hC : CallsOk P E) (hm : P.follows .mixedOrders = true) {rid : Nat} {draw : Bool} {R : Type} {K : St → Option R} {r : R} {st : St} {ρ : Nat → Nat} {a : Act} {w : World} (hs : Sim E X w0 ρ (fun i => i < st.n) st.fr st.hp a w)
    (he : opsK E draw ops st.n ops.toList 0 [] st K = some r) (Q : Exit → Act → World → Prop) (hQ : ∀ st' ρ' a' w', K st' = some r → Sim E X w0 ρ' (fun i => i < st.n + 8 * ops.size) st'.fr st'.hp a' w' → Q .normal a' w') :
    (Code.region rid ops draw).wp P Q a w := by
  obtain ⟨ds, st', hK, hrun, hids, hdraw⟩ := opsK_runs E draw ops st.n K r ops.toList 0 [] st (fun k o hk => by rw [Nat.zero_add]; simpa using hk) he
  have hlen : ds.length = ops.size := by have := congrArg List.length hids; simpa using this
  have hrange : ds.map (·.i) = List.range ops.size := by rw [hids, Array.length_toList, List.range_eq_range']
  have hal : ∀ i, alR st.n (fun i => i < ops.size) i → i < st.n + 8 * ops.size := by
    rintro i (hi | ⟨j, hj, hj2⟩) <;> omega
  have hmem : ∀ i, i ∈ ds.map (·.i) ↔ i < ops.size := fun i => by rw [hrange, List.mem_range]
  cases draw with
  | false =>
    refine wp_region ?_
    rw [← hrange]
    refine hrun.wpOps hT hC Q ds (fun _ => False) ρ a w st st' (hs.al_mono (fun i hi => .inl hi)) (fun _ _ h => h) (by rw [hrange]; exact List.nodup_range) (fun ρ' a' w' hs' => hQ st' ρ' a' w' hK (hs'.al_mono (fun i hi => hal i ?_)))
    rcases hi with hi | ⟨j, hj, hj2⟩
    · exact .inl hi
    · exact .inr ⟨j, (hmem j).1 (hj.resolve_left id), hj2⟩
  | true =>
    obtain ⟨_, hpw, hedge⟩ := hdraw rfl
    refine wp_region_any hm ?_
    have hs1 : Sim E X w0 ρ (fun i => i < st.n) st.fr st.hp a { w with drawn := w.drawn + 1 } := hs.drew
    refine RunD.wpAny hT hC Q ops.size rfl ops.size ds _ ρ a _ st st' hlen (by simp) (fun i => ?_) ?_ hpw hedge (fun j o hj _ => ?_) hrun (hs1.al_mono (fun i hi => .inl hi)) (fun ρ' a' w' hs' => hQ st' ρ' a' w' hK (hs'.al_mono hal))
    · rw [hmem]
      constructor
      · intro hi; exact ⟨hi, by rw [Array.getD_eq_getD_getElem?, Array.getElem?_replicate, if_pos hi]; rfl⟩
      · exact fun h => h.1
    · rw [hrange]; exact List.pairwise_lt_range
    · exfalso
      rw [Array.getD_eq_getD_getElem?, Array.getElem?_replicate] at hj
      split at hj <;> cases hj

end
end Go.Proofs.YtknafopmgaolmaaGreatDoor.AI

/- Code, loops, functions: the abstract interpreter's soundness. -/
namespace Go.Proofs.YtknafopmgaolmaaGreatDoor.AI
open Go Go.RowKit

section
variable {P : Program} {E : Env} {X : Nat → Prop} {w0 : Old}

/-- What a loop's head keeps of a slot. -/
def EntryOk (n0 : Nat) (st : St) (p s i : Nat) (kv : KV) : Prop :=
  kv = (.any, none) ∨ (∃ n, kv = (.v (.one (.buf p n)), st.hp i) ∧ st.fr s = .v (.one (.buf i n))) ∨ (kv = (.v (.one (.ptr p 0)), st.hp i) ∧ st.fr s = .v (.one (.ptr i 0))) ∨ (kv = (st.fr s, none) ∧ ∀ i ∈ refs (st.fr s), i < n0)

theorem canonGo_spec (n0 : Nat) (st : St) : ∀ (keep : List Nat) (p : Nat) (seen : List Nat), ∃ idf : Nat → Nat, (canonGo n0 st keep p seen).length = keep.length ∧
    (∀ (k s : Nat), keep[k]? = some s → ∃ kv, (canonGo n0 st keep p seen)[k]? = some kv ∧ EntryOk n0 st (p + k) s (idf k) kv ∧ (kv.2.isSome = true → idf k ∉ seen)) ∧
    (∀ (k k' : Nat) (kv kv' : KV), (canonGo n0 st keep p seen)[k]? = some kv → (canonGo n0 st keep p seen)[k']? = some kv' → kv.2.isSome = true → kv'.2.isSome = true → idf k = idf k' → k = k')
  | [], p, seen => ⟨fun _ => 0, rfl, fun k s h => by simp at h, fun k k' kv kv' h => by simp [canonGo] at h⟩
  | s :: keep, p, seen => by
    -- one entry, and the rest
    have core : ∀ (kv : KV) (i : Nat) (seen' : List Nat), (∀ x ∈ seen, x ∈ seen') → (kv.2.isSome = true → i ∈ seen' ∧ i ∉ seen) → EntryOk n0 st p s i kv → canonGo n0 st (s :: keep) p seen = kv :: canonGo n0 st keep (p + 1) seen' →
        ∃ idf : Nat → Nat, (canonGo n0 st (s :: keep) p seen).length = (s :: keep).length ∧
        (∀ (k s' : Nat), (s :: keep)[k]? = some s' → ∃ kv, (canonGo n0 st (s :: keep) p seen)[k]? = some kv ∧ EntryOk n0 st (p + k) s' (idf k) kv ∧ (kv.2.isSome = true → idf k ∉ seen)) ∧
        (∀ (k k' : Nat) (kv kv' : KV), (canonGo n0 st (s :: keep) p seen)[k]? = some kv → (canonGo n0 st (s :: keep) p seen)[k']? = some kv' → kv.2.isSome = true → kv'.2.isSome = true → idf k = idf k' → k = k') := by
      intro kv i seen' hss hi hent heq
      obtain ⟨idf, h1, h2, h3⟩ := canonGo_spec n0 st keep (p + 1) seen'
      rw [heq]
      have hsome : ∀ (k : Nat) (kv' : KV), (canonGo n0 st keep (p + 1) seen')[k]? = some kv' → kv'.2.isSome = true → idf k ∉ seen' := by
        intro k kv' hk hs
        obtain ⟨s', hs'⟩ := getElem?_of_lt (l := keep) (i := k) (by have := getElem?_lt hk; omega)
        obtain ⟨kv2, e1, _, e3⟩ := h2 k s' hs'
        rw [hk] at e1; cases e1
        exact e3 hs
      refine ⟨fun k => if k = 0 then i else idf (k - 1), by simp [h1], ?_, ?_⟩
      · intro k s' hk
        match k with
        | 0 => simp at hk; subst hk; exact ⟨kv, rfl, by simpa using hent, fun h => by simpa using (hi h).2⟩
        | k + 1 =>
          simp at hk
          obtain ⟨kv', e1, e2, e3⟩ := h2 k s' hk
          refine ⟨kv', by simpa using e1, ?_, fun h => ?_⟩
          · simp only [Nat.add_one_ne_zero, if_false, Nat.add_sub_cancel]
            rw [show p + (k + 1) = p + 1 + k by omega]
            exact e2
          · simp only [Nat.add_one_ne_zero, if_false, Nat.add_sub_cancel]
            exact fun hm => e3 h (hss _ hm)
      · intro k k' kv1 kv2 hk hk' hs hs' he
        match k, k' with
        | 0, 0 => rfl
        | 0, k' + 1 =>
          simp at hk hk'
          subst hk
          simp at he
          exact absurd (hi hs).1 (by rw [he]; exact hsome k' kv2 hk' hs')
        | k + 1, 0 =>
          simp at hk hk'
          subst hk'
          simp at he
          exact absurd (hi hs').1 (by rw [← he]; exact hsome k kv1 hk hs)
        | k + 1, k' + 1 =>
          simp at hk hk' he
          have := h3 k k' kv1 kv2 hk hk' hs hs' he
          omega
    have hany : canonGo n0 st (s :: keep) p seen = (.any, none) :: canonGo n0 st keep (p + 1) seen → _ := core (.any, none) 0 seen (fun _ h => h) (fun h => by cases h) (.inl rfl)
    cases hf : st.fr s with
    | any => exact hany (by simp only [canonGo, hf])
    | tup xs => exact hany (by simp only [canonGo, hf])
    | v x =>
      cases x with
      | agg cs => exact core (.v (.agg cs), none) 0 seen (fun _ h => h) (fun h => by cases h) (.inr (.inr (.inr ⟨by rw [hf], by rw [hf]; intro i hi; cases hi⟩))) (by simp only [canonGo, hf])
      | one l =>
        cases l with
        | s x => exact core (.v (.one (.s x)), none) 0 seen (fun _ h => h) (fun h => by cases h) (.inr (.inr (.inr ⟨by rw [hf], by rw [hf]; intro i hi; cases hi⟩))) (by simp only [canonGo, hf])
        | rows sz n f => exact core (.v (.one (.rows sz n f)), none) 0 seen (fun _ h => h) (fun h => by cases h) (.inr (.inr (.inr ⟨by rw [hf], by rw [hf]; intro i hi; cases hi⟩))) (by simp only [canonGo, hf])
        | dptr cs => exact core (.v (.one (.dptr cs)), none) 0 seen (fun _ h => h) (fun h => by cases h) (.inr (.inr (.inr ⟨by rw [hf], by rw [hf]; intro i hi; cases hi⟩))) (by simp only [canonGo, hf])
        | aptr k ns => exact core (.v (.one (.aptr k ns)), none) 0 seen (fun _ h => h) (fun h => by cases h) (.inr (.inr (.inr ⟨by rw [hf], by rw [hf]; intro i hi; cases hi⟩))) (by simp only [canonGo, hf])
        | iptr i j => exact hany (by simp only [canonGo, hf])
        | view i off n =>
          cases hsn : Nat.blt i n0 with
          | false => exact hany (by simp only [canonGo, hf, hsn, cond_false])
          | true =>
            have hlt : i < n0 := by rw [Nat.blt_eq] at hsn; exact hsn
            exact core (.v (.one (.view i off n)), none) 0 seen (fun _ h => h) (fun h => by cases h) (.inr (.inr (.inr ⟨by rw [hf], by rw [hf]; intro j hj; simp [refs, refsV, refsL] at hj; omega⟩))) (by simp only [canonGo, hf, hsn, cond_true])
        | buf i n =>
          cases hsn : seen.elem i with
          | true => exact hany (by simp only [canonGo, hf, hsn, cond_true])
          | false =>
            have hni : i ∉ seen := by simpa using hsn
            exact core (.v (.one (.buf p n)), st.hp i) i (i :: seen) (fun _ h => List.mem_cons_of_mem _ h) (fun _ => ⟨List.mem_cons_self .., hni⟩) (.inr (.inl ⟨n, rfl, hf⟩)) (by simp only [canonGo, hf, hsn, cond_false])
        | ptr i off =>
          match off with
          | 0 =>
            cases hsn : seen.elem i with
            | true => exact hany (by simp only [canonGo, hf, hsn, cond_true])
            | false =>
              have hni : i ∉ seen := by simpa using hsn
              exact core (.v (.one (.ptr p 0)), st.hp i) i (i :: seen) (fun _ h => List.mem_cons_of_mem _ h) (fun _ => ⟨List.mem_cons_self .., hni⟩) (.inr (.inr (.inl ⟨rfl, hf⟩))) (by simp only [canonGo, hf, hsn, cond_false])
          | off + 1 => exact hany (by simp only [canonGo, hf])

theorem slotGo_spec (t : Nat) : ∀ (keep : List Nat) (l : List KV), slotGo t keep l = .any ∨ ∃ (k : Nat) (kv : KV), keep[k]? = some t ∧ l[k]? = some kv ∧ slotGo t keep l = kv.1
  | [], _ => .inl (by simp [slotGo])
  | _ :: _, [] => .inl (by simp [slotGo])
  | s :: keep, kv :: l => by
    simp only [slotGo]
    cases hb : Nat.beq t s with
    | true => obtain rfl := Nat.eq_of_beq_eq_true hb; exact .inr ⟨0, kv, rfl, rfl, rfl⟩
    | false =>
      rcases slotGo_spec t keep l with h | ⟨k, kv', h1, h2, h3⟩
      · exact .inl h
      · exact .inr ⟨k + 1, kv', by simpa using h1, by simpa using h2, h3⟩

theorem blkGo_spec : ∀ (l : List KV) (i : Nat) (b : Blk), blkGo i l = some b → ∃ kv, l[i]? = some kv ∧ kv.2 = some b
  | [], i, b, h => by simp [blkGo] at h
  | kv :: l, 0, b, h => ⟨kv, rfl, h⟩
  | kv :: l, i + 1, b, h => by
    obtain ⟨kv', h1, h2⟩ := blkGo_spec l i b h
    exact ⟨kv', by simpa using h1, h2⟩

theorem blkGo_get : ∀ (l : List KV) (i : Nat) (kv : KV), l[i]? = some kv → blkGo i l = kv.2
  | [], i, kv, h => by simp at h
  | kv0 :: l, 0, kv, h => by simp at h; subst h; rfl
  | kv0 :: l, i + 1, kv, h => blkGo_get l i kv (by simpa using h)

theorem canonIO_len (st : St) : ∀ (n i : Nat), (canonIO st n i).length = n
  | 0, _ => rfl
  | n + 1, i => by simp [canonIO, canonIO_len st n]
theorem canonIO_blk (st : St) : ∀ (n i k : Nat) (r : List KV), k < n → blkGo k (canonIO st n i ++ r) = st.hp (i + k)
  | 0, _, _, _, h => by omega
  | n + 1, i, 0, r, _ => rfl
  | n + 1, i, k + 1, r, h => by
    simp only [canonIO, List.cons_append, blkGo]
    rw [canonIO_blk st n (i + 1) k r (by omega)]
    congr 1; omega
theorem canonIO_rest (st : St) : ∀ (n i k : Nat) (r : List KV), blkGo (n + k) (canonIO st n i ++ r) = blkGo k r
  | 0, _, k, r => by simp [canonIO]
  | n + 1, i, k, r => by
    rw [show n + 1 + k = (n + k) + 1 by omega]
    simp only [canonIO, List.cons_append, blkGo]
    exact canonIO_rest st n (i + 1) k r
theorem below_mem : ∀ {n i : Nat}, i < n → i ∈ below n
  | n + 1, i, h => by
    unfold below
    by_cases hi : i = n
    · subst hi; exact List.mem_cons_self ..
    · exact List.mem_cons_of_mem _ (below_mem (by omega))

/-- A loop's head: what is not kept is forgotten. -/
theorem canon_sim {ρ : Nat → Nat} {al : Nat → Prop} {st : St} {a : Act} {w : World} (h : Sim E X w0 ρ al st.fr st.hp a w) (keep : List Nat) :
    ∃ ρ', Sim E X w0 ρ' (fun i => i < (mk E.n0 keep (canon E.n0 keep st)).n) (mk E.n0 keep (canon E.n0 keep st)).fr (mk E.n0 keep (canon E.n0 keep st)).hp a w := by
  obtain ⟨n0, hn0⟩ : ∃ n0, n0 = E.n0 := ⟨_, rfl⟩
  rw [← hn0]
  obtain ⟨idf, h1, h2, h3⟩ := canonGo_spec n0 st keep n0 (below n0)
  obtain ⟨C, hC⟩ : ∃ C, C = canonGo n0 st keep n0 (below n0) := ⟨_, rfl⟩
  have hl0 : canon n0 keep st = canonIO st n0 0 ++ C := by rw [hC]; rfl
  rw [← hC] at h1 h2 h3
  rw [hl0]
  have hdrop : (canonIO st n0 0 ++ C).drop n0 = C := by
    have := List.drop_left (l₁ := canonIO st n0 0) (l₂ := C)
    rwa [canonIO_len] at this
  obtain ⟨hp2, hhp2⟩ : ∃ hp2, hp2 = (mk n0 keep (canonIO st n0 0 ++ C)).hp := ⟨_, rfl⟩
  rw [← hhp2]
  have hlo : ∀ q, q < n0 → hp2 q = st.hp q := fun q hq => by
    rw [hhp2]
    have := canonIO_blk st n0 0 q C hq
    rw [Nat.zero_add] at this
    exact this
  have hhi : ∀ k, hp2 (n0 + k) = blkGo k C := fun k => by rw [hhp2]; exact canonIO_rest st n0 0 k C
  have hfr : ∀ t, (mk n0 keep (canonIO st n0 0 ++ C)).fr t = slotGo t keep C := fun t => by
    show slotGo t keep ((canonIO st n0 0 ++ C).drop n0) = _
    rw [hdrop]
  have hn : (mk n0 keep (canonIO st n0 0 ++ C)).n = n0 + keep.length := rfl
  obtain ⟨idg, hidg⟩ : ∃ idg : Nat → Nat, idg = fun q => if q < n0 then q else idf (q - n0) := ⟨_, rfl⟩
  have hg1 : ∀ q, q < n0 → idg q = q := fun q hq => by rw [hidg]; simp only; rw [if_pos hq]
  have hg2 : ∀ k, idg (n0 + k) = idf k := fun k => by rw [hidg]; simp only; rw [if_neg (by omega)]; congr 1; omega
  have hup : ∀ (k : Nat) (b : Blk), blkGo k C = some b → k < keep.length ∧ st.hp (idf k) = some b ∧ n0 ≤ idf k ∧ ∃ kv, C[k]? = some kv ∧ kv.2 = some b := by
    intro q b hq
    obtain ⟨kv, hk, hb⟩ := blkGo_spec _ q b hq
    have hlt : q < keep.length := by have := getElem?_lt hk; omega
    obtain ⟨s, hs⟩ := getElem?_of_lt hlt
    obtain ⟨kv', e1, e2, e3⟩ := h2 q s hs
    rw [hk] at e1; cases e1
    refine ⟨hlt, ?_, ?_, kv, hk, hb⟩
    · rcases e2 with rfl | ⟨n, rfl, _⟩ | ⟨rfl, _⟩ | ⟨rfl, _⟩
      · cases hb
      · exact hb
      · exact hb
      · cases hb
    · have := e3 (by rw [hb]; rfl)
      rcases Nat.lt_or_ge (idf q) n0 with h4 | h4
      · exact absurd (below_mem h4) this
      · exact h4
  have hhp : ∀ (q : Nat) (b : Blk), hp2 q = some b → st.hp (idg q) = some b ∧ q < n0 + keep.length := by
    intro q b hq
    rcases Nat.lt_or_ge q n0 with h4 | h4
    · rw [hlo q h4] at hq
      exact ⟨by rw [hg1 q h4]; exact hq, by omega⟩
    · obtain ⟨k, rfl⟩ := Nat.exists_eq_add_of_le h4
      rw [hhi] at hq
      obtain ⟨h5, h6, _⟩ := hup k b hq
      exact ⟨by rw [hg2]; exact h6, by omega⟩
  have hown : ∀ b, XO X (fun q => ρ (idg q)) hp2 b → XO X ρ st.hp b := by
    rintro b (hb | ⟨q, bl, h4, h5⟩)
    · exact .inl hb
    · exact .inr ⟨idg q, bl, (hhp q bl h4).1, h5⟩
  have hl : Later (XO X ρ st.hp) w (XO X (fun q => ρ (idg q)) hp2) w := ⟨Nat.le_refl _, fun b _ hx => ⟨rfl, fun hb => hx (hown b hb)⟩⟩
  have key : ∀ t, RepA (fun q => ρ (idg q)) hp2 (XO X (fun q => ρ (idg q)) hp2) w (slotGo t keep C) (a.tmps.getD t undef) ∧ ∀ i ∈ refs (slotGo t keep C), i < n0 + keep.length := by
    intro t
    rcases slotGo_spec t keep C with he | ⟨k, kv, hk, hkv, he⟩
    · rw [he]; exact ⟨trivial, by simp [refs]⟩
    · rw [he]
      obtain ⟨kv', e1, e2, _⟩ := h2 k t hk
      rw [hkv] at e1; cases e1
      have hlt := getElem?_lt hk
      have hr := h.fr t
      have hbk := blkGo_get _ k kv hkv
      rcases e2 with rfl | ⟨n, rfl, hf⟩ | ⟨rfl, hf⟩ | ⟨rfl, hf⟩
      · exact ⟨trivial, by simp [refs]⟩
      · rw [hf] at hr
        obtain ⟨cap, hv, hnc, hc⟩ := hr
        refine ⟨⟨cap, by simp only [hg2]; exact hv, hnc, fun blk k1 ns hb hk1 => ?_⟩, ?_⟩
        · rw [hhi, hbk] at hb
          have := hc blk k1 ns hb hk1
          simp only [hg2]
          exact this
        · intro i hi
          simp [refs, refsV, refsL] at hi
          omega
      · rw [hf] at hr
        refine ⟨?_, ?_⟩
        · show _ = _
          simp only [hg2]
          exact hr
        · intro i hi
          simp [refs, refsV, refsL] at hi
          omega
      · refine ⟨RepA.later (al := fun i => i < n0) hl (fun i hi => ⟨by simp only [hg1 i hi], fun b' hb' => ⟨b', by rw [← hlo i hi]; exact hb', fun k ns e => ⟨k, ns, e, rfl⟩, rfl⟩⟩) hf hr, fun i hi => ?_⟩
        have := hf i hi
        omega
  refine ⟨fun q => ρ (idg q), { fr := fun t => by rw [hfr]; exact (key t).1, sz := h.sz, nod := h.nod, blk := ?_, inj := ?_, alh := ?_, alr := fun t i hi => by rw [hfr] at hi; exact (key t).2 i hi, below := h.below, x0 := h.x0, glob := h.glob, mg := h.mg, al0 := fun i hi => by show i < n0 + keep.length; omega, pin := fun i hi => by simp only [hg1 i (by omega)]; exact h.pin i hi }⟩
  · intro q b hq
    have hb := (hhp q b hq).1
    refine ⟨?_, (h.blk _ b hb).2.later hl rfl⟩
    rcases Nat.lt_or_ge q n0 with h4 | h4
    · have := (h.blk _ b hb).1
      simp only [hg1 q h4] at this ⊢
      exact this
    · obtain ⟨k, rfl⟩ := Nat.exists_eq_add_of_le h4
      rw [hhi] at hq
      obtain ⟨_, _, h6, _⟩ := hup k b hq
      exact .inl ((h.blk _ b hb).1.new (by rw [hg2]; omega))
  · intro q q' b b' hq hq' he
    have hb := (hhp q b hq).1
    have hb' := (hhp q' b' hq').1
    have hee := h.inj _ _ b b' hb hb' he
    rcases Nat.lt_or_ge q n0 with h4 | h4
    · rcases Nat.lt_or_ge q' n0 with h5 | h5
      · rw [hg1 q h4, hg1 q' h5] at hee; exact hee
      · obtain ⟨k, rfl⟩ := Nat.exists_eq_add_of_le h5
        rw [hhi] at hq'
        obtain ⟨_, _, h6, _⟩ := hup k b' hq'
        rw [hg1 q h4, hg2] at hee
        omega
    · obtain ⟨k, rfl⟩ := Nat.exists_eq_add_of_le h4
      rw [hhi] at hq
      obtain ⟨_, _, h6, kv, hk, hkb⟩ := hup k b hq
      rcases Nat.lt_or_ge q' n0 with h5 | h5
      · rw [hg1 q' h5, hg2] at hee
        omega
      · obtain ⟨k', rfl⟩ := Nat.exists_eq_add_of_le h5
        rw [hhi] at hq'
        obtain ⟨_, _, _, kv', hk', hkb'⟩ := hup k' b' hq'
        rw [hg2, hg2] at hee
        have := h3 k k' kv kv' hk hk' (by rw [hkb]; rfl) (by rw [hkb']; rfl) hee
        omega
  · intro q b hq
    exact (hhp q b hq).2

def exitOf : Ex → Exit
  | .normal => .normal
  | .exit id => .exit id
  | .ret => .ret

/-- What comes behind, as the model has it, takes what the abstract interpreter's does. -/
def KQ {R : Type} (E : Env) (X : Nat → Prop) (w0 : Old) (K : Ex → St → Option R) (Q : Exit → Act → World → Prop) (r : R) : Prop :=
  ∀ (ex : Ex) (st : St) (ρ : Nat → Nat) (a : Act) (w : World), K ex st = some r → Sim E X w0 ρ (fun i => i < st.n) st.fr st.hp a w → Q (exitOf ex) a w

theorem iter_rounds {R : Type} {c : Code} {keep : List Nat} {r : R} {Q : Exit → Act → World → Prop} {K : Ex → St → Option R} (hKQ : KQ E X w0 K Q r)
    (ih : ∀ (st : St) (K : Ex → St → Option R) (Q : Exit → Act → World → Prop) (ρ : Nat → Nat) (a : Act) (w : World), Sim E X w0 ρ (fun i => i < st.n) st.fr st.hp a w → evalCode E c st K = some r → KQ E X w0 K Q r → c.wp P Q a w) :
    ∀ (n : Nat) (l : List KV) (ρ : Nat → Nat) (a : Act) (w : World), iter (fun rec l => evalCode E c (mk E.n0 keep l) fun ex st' => match ex with
        | .normal => rec (canon E.n0 keep st')
        | .exit i => K (.exit i) st'
        | .ret => K .ret st') n l = some r → Sim E X w0 ρ (fun i => i < (mk E.n0 keep l).n) (mk E.n0 keep l).fr (mk E.n0 keep l).hp a w → Code.rounds P c Q n a w
  | 0, l, ρ, a, w, h, _ => by cases h
  | n + 1, l, ρ, a, w, h, hs => by
    rw [rounds_succ]
    refine ih (mk E.n0 keep l) _ _ ρ a w hs h ?_
    intro ex st' ρ' a' w' he hs'
    cases ex with
    | normal =>
      obtain ⟨ρ2, hs2⟩ := canon_sim hs' keep
      exact iter_rounds hKQ ih n _ ρ2 a' w' he hs2
    | exit i => exact hKQ (.exit i) st' ρ' a' w' he hs'
    | ret => exact hKQ .ret st' ρ' a' w' he hs'

theorem fix_some {α R : Type} {G : (α → Option R) → α → Option R} {x : α} {r : R} (h : fix G x = some r) : ∃ n, iter G n x = some r := by
  unfold fix at h
  split at h
  · rename_i hex
    cases h
    exact Classical.choose_spec hex
  · cases h

/-- CODE. -/
theorem code_sound (hT : TyOk P E.T) (hC : CallsOk P E) (hm : P.follows .mixedOrders = true) {R : Type} (r : R) : ∀ (c : Code) (st : St) (K : Ex → St → Option R) (Q : Exit → Act → World → Prop) (ρ : Nat → Nat) (a : Act) (w : World),
    Sim E X w0 ρ (fun i => i < st.n) st.fr st.hp a w → evalCode E c st K = some r → KQ E X w0 K Q r → c.wp P Q a w := by
  intro c
  induction c with
  | skip => intro st K Q ρ a w hs he hK; exact wp_skip (hK .normal st ρ a w he hs)
  | label l => intro st K Q ρ a w hs he hK; exact wp_label (hK .normal st ρ a w he hs)
  | exit id => intro st K Q ρ a w hs he hK; exact wp_exit (hK (.exit id) st ρ a w he hs)
  | ret => intro st K Q ρ a w hs he hK; exact wp_ret (hK .ret st ρ a w he hs)
  | region id ops draw =>
    intro st K Q ρ a w hs he hK
    unfold evalCode at he
    exact region_sound hT hC hm hs he Q (fun st' ρ' a' w' hk hs' => hK .normal _ ρ' a' w' hk hs')
  | seq x y ihx ihy =>
    intro st K Q ρ a w hs he hK
    unfold evalCode at he
    refine wp_seq (ihx st _ _ ρ a w hs he ?_)
    intro ex st' ρ' a' w' hk hs'
    cases ex with
    | normal =>
      simp only at hk
      split at hk
      · rename_i keep _
        obtain ⟨ρ2, hs2⟩ := canon_sim hs' keep
        unfold cutHere at hk
        exact ihy _ K Q ρ2 a' w' hs2 hk hK
      · exact ihy st' K Q ρ' a' w' hs' hk hK
    | exit i => exact hK (.exit i) st' ρ' a' w' hk hs'
    | ret => exact hK .ret st' ρ' a' w' hk hs'
  | cond c x y ihx ihy =>
    intro st K Q ρ a w hs he hK
    unfold evalCode at he
    split at he
    · rename_i s
      split at he
      · rename_i t ht
        have hr := hs.fr s
        rw [ht] at hr
        have hv : a.eval (.tmp s) = .bool t := hr.1
        have e0 : upd st.fr s (scv (.bool t)) = st.fr := upd_lit st.fr s t ht
        refine wp_cond hv ?_
        cases t with
        | true => simp only [cond_true, e0] at he; exact ihx _ K Q ρ a w hs he hK
        | false => simp only [cond_false, e0] at he; exact ihy _ K Q ρ a w hs he hK
      · cases he
    · rename_i t
      refine wp_cond (t := t) rfl ?_
      cases t with
      | true => simp only [cond_true] at he; exact ihx _ K Q ρ a w hs he hK
      | false => simp only [cond_false] at he; exact ihy _ K Q ρ a w hs he hK
    · cases he
  | block id c ih =>
    intro st K Q ρ a w hs he hK
    unfold evalCode at he
    refine wp_block (ih st _ _ ρ a w hs he ?_)
    intro ex st' ρ' a' w' hk hs'
    cases ex with
    | normal => exact hK .normal st' ρ' a' w' hk hs'
    | ret => exact hK .ret st' ρ' a' w' hk hs'
    | exit i =>
      simp only [exitOf, Exit.inBlock]
      simp only at hk
      cases hb : Nat.beq i id with
      | true =>
        rw [hb] at hk
        rw [if_pos (Nat.eq_of_beq_eq_true hb)]
        exact hK .normal st' ρ' a' w' hk hs'
      | false =>
        rw [hb] at hk
        rw [if_neg (Nat.ne_of_beq_eq_false hb)]
        exact hK (.exit i) st' ρ' a' w' hk hs'
  | loop c ih =>
    intro st K Q ρ a w hs he hK
    unfold evalCode at he
    obtain ⟨ρ2, hs2⟩ := canon_sim hs (E.keep (keyOf c))
    split at he
    · rename_i n _
      exact wp_loop_rounds n (iter_rounds hK ih n _ ρ2 a w he hs2)
    · obtain ⟨n, hn⟩ := fix_some he
      exact wp_loop_rounds n (iter_rounds hK ih n _ ρ2 a w hn hs2)
  | rangeFunc f ps x y _ _ => intro st K Q ρ a w hs he hK; unfold evalCode at he; cases he
  | scope c ih =>
    intro st K Q ρ a w hs he hK
    unfold evalCode at he
    refine wp_scope_straight (ih st K _ ρ a w hs he ?_)
    intro ex st' ρ' a' w' hk hs'
    have := hK ex st' ρ' a' w' hk hs'
    cases ex <;> exact this
  | goto l => intro st K Q ρ a w hs he hK; unfold evalCode at he; cases he
  | refuse why => intro st K Q ρ a w hs he hK; unfold evalCode at he; cases he

end
end Go.Proofs.YtknafopmgaolmaaGreatDoor.AI

/- A function: what the abstract interpreter tells of it is its contract. -/
namespace Go.Proofs.YtknafopmgaolmaaGreatDoor.AI
open Go Go.RowKit

theorem hasBody_of {P : Program} {f : FuncId} {fn : Func} {c : Code} (hf : P.funcs[f]? = some fn) (hb : fn.body = some c) (hn : (fn.name == "runtime.NumGoroutine") = false) : HasBody P f := by
  intro vs w
  have hn' : ¬ fn.name = "runtime.NumGoroutine" := by simpa using hn
  simp [callFunc, hf, hb, hn']

theorem lmapM_run {α β : Type} {P : Program} {w : World} {f : α → Sem β} {g : α → β} : ∀ {l : List α}, (∀ x ∈ l, (f x).run P w = .ok (g x) w) → (l.mapM f).run P w = .ok (l.map g) w
  | [], _ => rfl
  | x :: l, h => by
    rw [List.mapM_cons, Sem.run_bind, h x (List.mem_cons_self ..), Result.andThen_ok, Sem.run_bind, lmapM_run fun y hy => h y (List.mem_cons_of_mem _ hy)]
    rfl

theorem mapM_run {α β : Type} {P : Program} {w : World} {f : α → Sem β} {g : α → β} {arr : Array α} (h : ∀ x ∈ arr.toList, (f x).run P w = .ok (g x) w) :
    (arr.mapM f).run P w = .ok (arr.toList.map g).toArray w := by
  rw [Array.mapM_eq_mapM_toList, map_eq_pure_bind, Sem.run_bind, lmapM_run h]
  rfl

section
variable {P : Program} {E : Env} {X : Nat → Prop} {w0 : Old} {ρ : Nat → Nat} {al : Nat → Prop} {st : St} {a : Act} {w : World}

/-- What lies apart among the results of a function, by the block. -/
def ownOf (st : St) : ResultVar → Option Nat
  | .tmp t => match st.fr t with
    | .v (.one (.buf i _)) => some i
    | .v (.one (.view i _ _)) => some i
    | _ => none
  | .cell _ _ => none

def resRun (a : Act) : ResultVar → Sem Value
  | .tmp t => pure (a.tmps.getD t undef)
  | .cell d t => do loadVar t (← asAddr (a.tmps.getD d undef))

def Good (E : Env) (X : Nat → Prop) (base : Nat) (st : St) (ρ : Nat → Nat) (w : World) (r : ResultVar) (v : Value) : D → Prop
  | .own e k ns => ∃ i, ownOf st r = some i ∧ (∃ b, st.hp i = some b) ∧ OwnAt base w (ρ i) e k ns v
  | .back i off n => i ∈ E.io ∧ ∀ blk k ns, st.hp i = some blk → blk.cont = .ints k ns → ViewAt w (ρ i) ns.length off n v
  | d => RepD (XO X ρ st.hp) w d v

theorem resD_sound (hT : TyOk P E.T) (h : Sim E X w0 ρ al st.fr st.hp a w) {r : ResultVar} {d : D} (hd : resD E st r = some d) :
    ∃ v, (resRun a r).run P w = .ok v w ∧ Good E X w0.w.heap.size st ρ w r v d := by
  cases r with
  | tmp t =>
    have hr := h.fr t
    refine ⟨_, rfl, ?_⟩
    unfold resD at hd
    simp only at hd
    split at hd
    · rename_i cs hf
      cases hd
      rw [hf] at hr
      exact hr
    · rename_i x hf
      cases hd
      rw [hf] at hr
      exact hr
    · rename_i i n hf
      cases hni : Nat.blt i E.n0 with
      | true => rw [hni] at hd; cases hd
      | false =>
      rw [hni] at hd
      simp only [cond_false] at hd
      have hni : E.n0 ≤ i := by
        have : ¬ i < E.n0 := fun h => by
          have h2 : Nat.blt i E.n0 = true := by rw [Nat.blt_eq]; exact h
          rw [h2] at hni; cases hni
        omega
      split at hd
      · rename_i e k ns hb
        cases hd
        rw [hf] at hr
        obtain ⟨cap, hv, hle, hc⟩ := hr
        obtain ⟨e1, e2, e3⟩ := hc _ k ns hb rfl
        obtain ⟨hw, arr, hg, hcs⟩ := h.blk i _ hb
        have hs : cap ≤ arr.size := by unfold asize at e3; rw [hg] at e3; exact e3
        refine ⟨i, by simp [ownOf, hf], ⟨_, hb⟩, arr, cap, by rw [← e1]; exact hv, hw.new hni, hg, by omega, hs, e2, hcs.2⟩
      · cases hd
    · rename_i i off n hf
      rw [hf] at hr
      obtain ⟨o', cap, hv, hnc, hA, hA0, hc⟩ := hr
      cases hio : E.io.elem i with
      | true =>
        rw [hio] at hd
        simp only [cond_true] at hd
        cases hd
        exact ⟨by simpa using hio, fun blk k ns hb hk => ⟨o', cap, hv, hnc, hA, hA0, hc blk k ns hb hk⟩⟩
      | false =>
      rw [hio] at hd
      simp only [cond_false] at hd
      cases hni : Nat.blt i E.n0 with
      | true => rw [hni] at hd; cases hd
      | false =>
      rw [hni] at hd
      simp only [cond_false] at hd
      have hni : E.n0 ≤ i := by
        have : ¬ i < E.n0 := fun h => by
          have h2 : Nat.blt i E.n0 = true := by rw [Nat.blt_eq]; exact h
          rw [h2] at hni; cases hni
        omega
      split at hd
      · rename_i e k ns hb
        cases hd
        obtain ⟨e1, e2, e3⟩ := hc _ k ns hb rfl
        obtain ⟨hw, arr, hg, hcs⟩ := h.blk i _ hb
        have hs : cap ≤ arr.size := by unfold asize at e3; rw [hg] at e3; exact e3
        have hl : (ns.take n).length = n := by rw [List.length_take]; omega
        refine ⟨i, by simp [ownOf, hf], ⟨_, hb⟩, arr, cap, by rw [hl, ← hA0 rfl]; exact hv, hw.new hni, hg, by rw [hl]; exact hnc, hs, e2, fun j m hj => hcs.2 j m ?_⟩
        have hjn : j < n := by have := getElem?_lt hj; omega
        rw [List.getElem?_take_of_lt hjn] at hj
        exact hj
      · cases hd
    · cases hd
  | cell t ty =>
    have hr := h.fr t
    unfold resD at hd
    simp only at hd
    split at hd
    · rename_i i off ti hf hti
      rw [hf] at hr
      have hr : a.tmps.getD t undef = .pointer (some ⟨ρ i, off, none⟩) := hr
      split at hd
      · rename_i e cs hb
        obtain ⟨_, arr, hg, hcs⟩ := h.blk i _ hb
        have hl : ∀ x, partOf ti cs off = some x → ∃ v, (resRun a (.cell t ty)).run P w = .ok v w ∧ RepV ρ st.hp (XO X ρ st.hp) w x v ∧ refsV x = [] := by
          intro x hx
          obtain ⟨v, h1, h2, h3⟩ := load_at (P := P) (hT ty ti hti) (b := ρ i) (off := 0) (cs := cs) (fun j s hs => by
            obtain ⟨u, hu, hr⟩ := hcs.2 j s hs
            exact ⟨u, by rw [cell_of_row w (ρ i) _ arr e (0, 0) hg]; simpa using hu, hr⟩) hx (ρ := ρ) (hp' := st.hp)
          rw [Nat.zero_add] at h1
          refine ⟨v, ?_, h2, h3⟩
          unfold resRun
          rw [Sem.run_bind, hr]
          simpa [asAddr] using h1
        split at hd
        · rename_i cs' hx
          cases hd
          obtain ⟨v, h1, h2, _⟩ := hl _ hx
          exact ⟨v, h1, h2⟩
        · rename_i x hx
          cases hd
          obtain ⟨v, h1, h2, _⟩ := hl _ hx
          exact ⟨v, h1, h2⟩
        · cases hd
      · cases hd
    · cases hd

theorem mapM_all {α β : Type} {f : α → Option β} : ∀ {l : List α} {ys : List β}, l.mapM f = some ys → ys.length = l.length ∧ ∀ (i : Nat) (x : α), l[i]? = some x → ∃ y, ys[i]? = some y ∧ f x = some y
  | [], ys, h => by simp at h; subst h; simp
  | x :: l, ys, h => by
    rw [List.mapM_cons] at h
    cases hx : f x with
    | none => rw [hx] at h; cases h
    | some y =>
      cases hl : l.mapM f with
      | none => rw [hx, hl] at h; cases h
      | some ys' =>
        rw [hx, hl] at h
        cases h
        obtain ⟨h1, h2⟩ := mapM_all hl
        refine ⟨by simp [h1], fun i x' hi => ?_⟩
        match i with
        | 0 => simp at hi; subst hi; exact ⟨y, rfl, hx⟩
        | i + 1 => simp at hi; obtain ⟨y', e1, e2⟩ := h2 i x' hi; exact ⟨y', by simpa using e1, e2⟩

theorem ownIds_mem : ∀ {l : List ResultVar} {j : Nat} {r : ResultVar} {i : Nat}, l[j]? = some r → ownOf st r = some i → i ∈ ownIds st l
  | [], j, r, i, h, _ => by simp at h
  | r0 :: l, 0, r, i, h, ho => by
    simp at h; subst h
    cases r0 with
    | cell => cases ho
    | tmp t =>
      simp only [ownOf] at ho
      split at ho
      · rename_i i' n hf; cases ho; simp [ownIds, hf]
      · rename_i i' o' n hf; cases ho; simp [ownIds, hf]
      · cases ho
  | r0 :: l, j + 1, r, i, h, ho => by
    have := ownIds_mem (l := l) (j := j) (by simpa using h) ho
    cases r0 with
    | cell => exact this
    | tmp t => simp only [ownIds]; exact List.mem_append_right _ this

theorem nodup_app : ∀ {xs ys : List Nat}, nodup (xs ++ ys) = true → nodup ys = true ∧ ∀ x ∈ xs, x ∉ ys
  | [], ys, h => ⟨h, by simp⟩
  | x :: xs, ys, h => by
    simp only [List.cons_append, nodup, Bool.and_eq_true] at h
    obtain ⟨h1, h2⟩ := nodup_app h.2
    refine ⟨h1, fun y hy => ?_⟩
    rcases List.mem_cons.1 hy with rfl | hy
    · intro hm
      have : (xs ++ ys).elem y = true := by simp [hm]
      rw [this] at h
      simp at h
    · exact h2 y hy

theorem ownIds_inj : ∀ {l : List ResultVar} {j j' : Nat} {r r' : ResultVar} {i : Nat}, nodup (ownIds st l) = true → l[j]? = some r → l[j']? = some r' → ownOf st r = some i → ownOf st r' = some i → j = j'
  | [], j, j', r, r', i, _, h, _, _, _ => by simp at h
  | r0 :: l, j, j', r, r', i, hn, h, h', ho, ho' => by
    have hrest : nodup (ownIds st l) = true := by
      cases r0 with
      | cell => exact hn
      | tmp t => simp only [ownIds] at hn; exact (nodup_app hn).1
    have hhead : ∀ r1, ownOf st r0 = some i → ∀ k : Nat, l[k]? = some r1 → ownOf st r1 = some i → False := by
      intro r1 h0 k hk h1
      have hm := ownIds_mem hk h1
      cases r0 with
      | cell => cases h0
      | tmp t =>
        simp only [ownOf] at h0
        split at h0
        · rename_i i' n hf
          cases h0
          simp only [ownIds, hf] at hn
          exact (nodup_app hn).2 i (by simp) hm
        · rename_i i' o' n hf
          cases h0
          simp only [ownIds, hf] at hn
          exact (nodup_app hn).2 i (by simp) hm
        · cases h0
    match j, j' with
    | 0, 0 => rfl
    | 0, j' + 1 => simp at h h'; subst h; exact (hhead r' ho j' h' ho').elim
    | j + 1, 0 => simp at h h'; subst h'; exact (hhead r ho' j h ho).elim
    | j + 1, j' + 1 => simp at h h'; exact congrArg (· + 1) (ownIds_inj hrest h h' ho ho')

theorem argFrI_get : ∀ {ds : List D} {i t : Nat}, (∃ d, ds[t]? = some d ∧ argFrI i ds t = argAt (i + t) d) ∨ argFrI i ds t = .any
  | [], _, _ => .inr (by simp [argFrI])
  | d :: _, _, 0 => .inl ⟨d, rfl, rfl⟩
  | _ :: ds, i, t + 1 => by
    rcases argFrI_get (ds := ds) (i := i + 1) (t := t) with ⟨d, h1, h2⟩ | h
    · exact .inl ⟨d, by simpa using h1, by rw [show i + (t + 1) = i + 1 + t by omega]; exact h2⟩
    · exact .inr h
theorem argHp_get : ∀ {ds : List D} {i j : Nat} {b : Blk}, argHp i ds j = some b → i ≤ j ∧ ∃ e k ns off n, ds[j - i]? = some (.io e k ns off n) ∧ b = ⟨e, .ints k ns⟩
  | [], _, _, _, h => by cases h
  | d :: ds, i, j, b, h => by
    have tail : argHp (i + 1) ds j = some b → i ≤ j ∧ ∃ e k ns off n, (d :: ds)[j - i]? = some (.io e k ns off n) ∧ b = ⟨e, .ints k ns⟩ := by
      intro h
      obtain ⟨h1, e, k, ns, off, n, h2, h3⟩ := argHp_get h
      exact ⟨by omega, e, k, ns, off, n, by rw [show j - i = (j - (i + 1)) + 1 by omega]; simpa using h2, h3⟩
    cases d with
    | io e k ns off n =>
      simp only [argHp] at h
      cases hb : Nat.beq j i with
      | true =>
        rw [hb] at h
        have := Nat.eq_of_beq_eq_true hb
        subst this
        cases h
        exact ⟨Nat.le_refl _, e, k, ns, off, n, by simp, rfl⟩
      | false => rw [hb] at h; exact tail h
    | s => exact tail h
    | rows => exact tail h
    | agg => exact tail h
    | own => exact tail h
    | back => exact tail h
theorem argHp_io : ∀ {ds : List D} {i t : Nat} {e : TypeId} {k : IntKind} {ns : List Int} {off n : Nat}, ds[t]? = some (.io e k ns off n) → argHp i ds (i + t) = some ⟨e, .ints k ns⟩
  | [], _, _, _, _, _, _, _, h => by simp at h
  | d :: ds, i, 0, e, k, ns, off, n, h => by
    simp at h
    subst h
    simp [argHp]
  | d :: ds, i, t + 1, e, k, ns, off, n, h => by
    have ih := argHp_io (i := i + 1) (ds := ds) (t := t) (by simpa using h)
    rw [show i + 1 + t = i + (t + 1) by omega] at ih
    cases d with
    | io e' k' ns' off' n' =>
      simp only [argHp]
      rw [show Nat.beq (i + (t + 1)) i = false from by
        cases hb : Nat.beq (i + (t + 1)) i with
        | false => rfl
        | true => have := Nat.eq_of_beq_eq_true hb; omega]
      exact ih
    | s => exact ih
    | rows => exact ih
    | agg => exact ih
    | own => exact ih
    | back => exact ih
theorem repD_of {Y : Nat → Prop} {w : World} {g : Nat → Nat} {i : Nat} {v : Value} {d : D} (hn : isIo d = false) (h : ArgOk Y w g i v d) : RepD Y w d v := by
  cases d with
  | io => cases hn
  | s x => exact h
  | rows a b c => exact h
  | agg cs => exact h
  | own a b c => exact h
  | back => exact h
end

theorem refs_argA (d : D) : refs (argA d) = [] := by cases d <;> rfl

theorem oneOf (vs : List Value) : (if h : vs.toArray.size = 1 then vs.toArray[0] else Value.tuple vs.toArray) = resV vs := by
  match vs with
  | [] => simp [resV]
  | [v] => simp [resV]
  | _ :: _ :: _ => simp [resV]

/-- A function, by what the abstract interpreter tells of its text. -/
theorem fn_core {P : Program} {E : Env} (hT : TyOk P E.T) (hC : CallsOk P E) (hm : P.follows .mixedOrders = true) {f : FuncId} {fn : Func} {c : Code} (hf : P.funcs[f]? = some fn) (hb : fn.body = some c) (hnt : E.nt = fn.ntmps)
    {ds rs js : List D} (hle : ds.length ≤ fn.ntmps) (he : evalFn E fn c ds = some (rs ++ js)) (hjl : js.length = E.io.length) (hlt : ∀ i, i ∈ E.io → i < E.n0)
    (hin : ∀ (i : Nat) (d : D), ds[i]? = some d → isIo d = true → i ∈ E.io) (hall : ∀ i, i ∈ E.io → ∃ e k ns off n, ds[i]? = some (.io e k ns off n))
    {Y : Nat → Prop} {w : World} {vs : List Value} {g0 : Nat → Nat} (hY : ∀ b, Y b → b < w.heap.size) (hG : GlobOk E.glob Y w) (hlen : ds.length = vs.length)
    (hargs : ∀ (i : Nat) (d : D) (v : Value), ds[i]? = some d → vs[i]? = some v → ArgOk Y w g0 i v d) (hinj0 : ∀ i j, i ∈ E.io → j ∈ E.io → g0 i = g0 j → i = j) :
    Calls P f vs.toArray w fun e w' => ∃ vs', e = .returned (resV vs') ∧ Turned (inPs E.io g0) w w' ∧ RepResB Y w.heap.size w' E.io js g0 rs vs' ∧ ∀ (j i : Nat) (d : D), E.io[j]? = some i → js[j]? = some d → BackOk w' (g0 i) d := by
  refine calls_of_wp hf hb ?_
  have hIo : ∀ i e k ns off n, ds[i]? = some (.io e k ns off n) → Y (g0 i) ∧ ∃ v, vs[i]? = some v ∧ IoAt w (g0 i) e k ns off n v := by
    intro i e k ns off n hi
    obtain ⟨v, hv⟩ := getElem?_of_lt (l := vs) (i := i) (by have := getElem?_lt hi; omega)
    have := hargs i _ v hi hv
    exact ⟨this.1, v, hv, this.2⟩
  have hMY : ∀ b, inPs E.io g0 b → Y b := by
    rintro b ⟨i, hi, rfl⟩
    obtain ⟨e, k, ns, off, n, h⟩ := hall i hi
    exact (hIo i e k ns off n h).1
  obtain ⟨w0, hw0⟩ : ∃ w0 : Old, w0 = ⟨w, inPs E.io g0, g0, fun b hb => hY b (hMY b hb)⟩ := ⟨_, rfl⟩
  have hw0w : w0.w = w := by rw [hw0]
  have hw0M : w0.M = inPs E.io g0 := by rw [hw0]
  have hw0g : w0.g = g0 := by rw [hw0]
  have hpg : ∀ j b, argHp 0 ds j = some b → j ∈ E.io ∧ ∃ e k ns off n, ds[j]? = some (.io e k ns off n) ∧ b = ⟨e, .ints k ns⟩ := by
    intro j b hj
    obtain ⟨_, e, k, ns, off, n, h1, h2⟩ := argHp_get hj
    rw [Nat.sub_zero] at h1
    exact ⟨hin j _ h1 rfl, e, k, ns, off, n, h1, h2⟩
  have hsim : Sim E (fun b => Y b ∧ ¬ inPs E.io g0 b) w0 g0 (fun i => i < E.n0) (argFr ds) (argHp 0 ds) { tmps := vs.toArray ++ Array.replicate (fn.ntmps - vs.toArray.size) undef, defers := [] } w := by
    have hx : ∀ b, XO (fun b => Y b ∧ ¬ inPs E.io g0 b) g0 (argHp 0 ds) b → Y b := by
      rintro b (h | ⟨i, bl, h, rfl⟩)
      · exact h.1
      · exact hMY _ ⟨i, (hpg i bl h).1, rfl⟩
    have hl : Later Y w (XO (fun b => Y b ∧ ¬ inPs E.io g0 b) g0 (argHp 0 ds)) w := ⟨Nat.le_refl _, fun b _ h => ⟨rfl, fun h' => h (hx b h')⟩⟩
    have hget : ∀ t, (∃ d, ds[t]? = some d ∧ argFr ds t = argAt t d) ∨ argFr ds t = .any := by
      intro t
      have := argFrI_get (ds := ds) (i := 0) (t := t)
      rw [Nat.zero_add] at this
      exact this
    refine { fr := ?_, sz := by simp [hnt]; omega, nod := rfl, blk := ?_, inj := ?_, alh := ?_, alr := ?_, below := by rw [hw0w]; exact Kept.refl _ _, x0 := ?_, glob := ?_, mg := ?_, al0 := fun _ h => h, pin := fun _ _ => by rw [hw0g] }
    · intro t
      rcases hget t with ⟨d, h1, h2⟩ | h
      · rw [h2]
        have ht := getElem?_lt h1
        obtain ⟨v, hv⟩ := getElem?_of_lt (l := vs) (i := t) (by omega)
        have e : (vs.toArray ++ Array.replicate (fn.ntmps - vs.toArray.size) undef).getD t undef = v := by
          rw [Array.getD_eq_getD_getElem?, Array.getElem?_append_left (by simp; omega)]
          simp [hv]
        rw [e]
        cases hd : isIo d with
        | false =>
          have hr := (repD_of hd (hargs t d v h1 hv)).later hl
          cases d with
          | io => cases hd
          | own e k ns => exact hr
          | s x => exact hr
          | rows a b c => exact hr
          | agg cs => exact hr
          | back => exact hr.elim
        | true =>
          cases d with
          | io e' k ns off n =>
            obtain ⟨_, v', hv', ⟨o', cap, h3, h4, h5, h6, h7⟩, _⟩ := hIo t _ _ _ _ _ h1
            rw [hv] at hv'
            cases hv'
            refine ⟨o', cap, h3, h4, h5, h6, fun blk k1 ns1 hb1 hk1 => ?_⟩
            have := argHp_io (i := 0) h1
            rw [Nat.zero_add] at this
            rw [this] at hb1
            cases hb1
            cases hk1
            exact h7
          | own => cases hd
          | s => cases hd
          | rows => cases hd
          | agg => cases hd
          | back => cases hd
      · rw [h]; trivial
    · intro id b hb
      obtain ⟨h1, e, k, ns, off, n, h2, rfl⟩ := hpg id b hb
      obtain ⟨_, v, _, _, h3⟩ := hIo id _ _ _ _ _ h2
      exact ⟨.inr ⟨hlt id h1, by rw [hw0M]; exact ⟨id, h1, rfl⟩⟩, h3⟩
    · intro id id' b b' h1 h2 h3
      exact hinj0 id id' (hpg id b h1).1 (hpg id' b' h2).1 h3
    · intro id b h1
      exact hlt id (hpg id b h1).1
    · intro t i hi
      rcases hget t with ⟨d, h1, h2⟩ | h
      · rw [h2] at hi
        cases d with
        | io e' k ns off n =>
          simp [argAt, refs, refsV, refsL] at hi
          subst hi
          exact hlt _ (hin _ _ h1 rfl)
        | own => cases hi
        | s => cases hi
        | rows => cases hi
        | agg => cases hi
        | back => cases hi
      · rw [h] at hi; cases hi
    · rintro b ⟨h1, h2⟩ (hm | hm)
      · rw [hw0w] at hm; have := hY b h1; omega
      · rw [hw0M] at hm; exact h2 hm
    · rw [hw0w]
      intro g k ns hg
      obtain ⟨h1, h2, h3⟩ := hG g k ns hg
      exact ⟨h1, fun h => h2 h.1, h3.later ⟨Nat.le_refl _, fun b _ hb => ⟨rfl, fun h => hb h.1⟩⟩⟩
    · intro g q hg hm
      rw [hw0M] at hm
      obtain ⟨k, ns⟩ := q
      exact (hG g k ns hg).2.1 (hMY _ hm)
  have hYX : ∀ b, Y b → (Y b ∧ ¬ inPs E.io g0 b) ∨ inPs E.io g0 b := fun b hb => by
    by_cases h : inPs E.io g0 b
    · exact .inr h
    · exact .inl ⟨hb, h⟩
  unfold evalFn at he
  refine code_sound hT hC hm _ c _ _ _ g0 _ w hsim he ?_
  intro ex st ρ a' w' hK hs
  have hend : (∃ i, ex = .exit i) ∨ (nodup (ownIds st fn.results.toList) = true ∧ fn.results.toList.mapM (resD E st) = some rs ∧ E.io.mapM (ioD st) = some js) := by
    have hrest : (bif nodup (ownIds st fn.results.toList) then (match E.io with
    | [] => fn.results.toList.mapM (resD E st)
    | p :: ps => match fn.results.toList.mapM (resD E st), (p :: ps).mapM (ioD st) with
      | some rs, some is => some (rs ++ is)
      | _, _ => none) else none) = some (rs ++ js) → (nodup (ownIds st fn.results.toList) = true ∧ fn.results.toList.mapM (resD E st) = some rs ∧ E.io.mapM (ioD st) = some js) := by
      intro hK
      cases hn : nodup (ownIds st fn.results.toList) with
      | false => rw [hn] at hK; cases hK
      | true =>
        rw [hn] at hK
        simp only [cond_true] at hK
        refine ⟨rfl, ?_⟩
        match hio : E.io, hK with
        | [], hK =>
          rw [hio] at hjl
          have : js = [] := List.eq_nil_of_length_eq_zero hjl
          subst this
          rw [List.append_nil] at hK
          exact ⟨hK, rfl⟩
        | p :: ps, hK =>
          simp only at hK
          split at hK
          · rename_i rs' js' h1 h2
            have hl2 := (mapM_all h2).1
            rw [hio] at hjl
            have := List.append_inj' (Option.some.inj hK) (by rw [hl2, hjl])
            rw [h1, h2, this.1, this.2]
            exact ⟨rfl, rfl⟩
          · cases hK
    cases ex with
    | exit i => exact .inl ⟨i, rfl⟩
    | normal => exact .inr (hrest hK)
    | ret => exact .inr (hrest hK)
  rcases hend with ⟨i, rfl⟩ | ⟨hn, hrs, hjs⟩
  · cases hK
  have key : a'.defers = [] ∧ ∃ v, (results fn a'.tmps).run P w' = .ok v w' ∧ ∃ vs', Ending.returned v = .returned (resV vs') ∧ Turned (inPs E.io g0) w w' ∧ RepResB Y w.heap.size w' E.io js g0 rs vs' ∧ ∀ (j i : Nat) (d : D), E.io[j]? = some i → js[j]? = some d → BackOk w' (g0 i) d := by
    refine ⟨hs.nod, ?_⟩
    obtain ⟨hlen', hall'⟩ := mapM_all hrs
    let X' : Nat → Prop := fun b => Y b ∧ ¬ inPs E.io g0 b
    let good (r : ResultVar) (d : D) (v : Value) : Prop := (resRun a' r).run P w' = .ok v w' ∧ Good E X' w.heap.size st ρ w' r v d
    have hex : ∀ r, ∃ v, ∀ d, resD E st r = some d → good r d v := by
      intro r
      cases hd : resD E st r with
      | none => exact ⟨undef, fun d h => by cases h⟩
      | some d =>
        obtain ⟨v, h1, h2⟩ := resD_sound hT hs hd
        rw [hw0w] at h2
        exact ⟨v, fun d' h => by cases h; exact ⟨h1, h2⟩⟩
    obtain ⟨g, hg'⟩ := Classical.axiomOfChoice hex
    have hg : ∀ r d, r ∈ fn.results.toList → resD E st r = some d → good r d (g r) := fun r d _ hd => hg' r d hd
    have hrun : (fn.results.mapM (resRun a')).run P w' = .ok (fn.results.toList.map g).toArray w' :=
      mapM_run fun r hr => by
        obtain ⟨i, hi⟩ := List.mem_iff_getElem?.1 hr
        obtain ⟨d, _, hd⟩ := hall' i r hi
        exact (hg r d hr hd).1
    have hres : (results fn a'.tmps).run P w' = .ok (resV (fn.results.toList.map g)) w' := by
      have e : results fn a'.tmps = (fn.results.mapM (resRun a') >>= fun vs => pure (if h : vs.size = 1 then vs[0] else Value.tuple vs)) := by
        unfold results
        congr 1
      rw [e, Sem.run_bind, hrun, Result.andThen_ok, Sem.run_pure]
      congr 1
      exact oneOf _
    have hkept := hs.below
    rw [hw0w] at hkept
    have hturn : Turned (inPs E.io g0) w w' := ⟨hkept.os, hkept.tape, hkept.output, hkept.size, fun b hb hM => hkept.block b (fun hm => by
      rcases hm with hm | hm
      · rw [hw0w] at hm; omega
      · rw [hw0M] at hm; exact hM hm), fun b hM => hkept.room b (by rw [hw0M]; exact hM)⟩
    -- what is handed back, in its blocks
    have hioat : ∀ (j i : Nat) (d : D), E.io[j]? = some i → js[j]? = some d → ∃ e k ns, d = .io e k ns 0 0 ∧ st.hp i = some ⟨e, .ints k ns⟩ ∧ ρ i = g0 i := by
      intro j i d hj hd
      obtain ⟨_, h2⟩ := mapM_all hjs
      obtain ⟨d', h3, h4⟩ := h2 j i hj
      rw [hd] at h3
      cases h3
      unfold ioD at h4
      split at h4
      · rename_i e k ns hb
        cases h4
        refine ⟨e, k, ns, rfl, hb, ?_⟩
        have := hs.pin i (hlt i (List.mem_of_getElem? hj))
        rw [hw0g] at this
        exact this
      · cases h4
    -- what was excluded stays so
    have hYO : ∀ b, Y b → XO X' ρ st.hp b := by
      intro b hb
      rcases hYX b hb with h | ⟨i, hi, rfl⟩
      · exact .inl h
      · obtain ⟨j, hj⟩ := List.mem_iff_getElem?.1 hi
        obtain ⟨d, hd⟩ := getElem?_of_lt (l := js) (i := j) (by have := getElem?_lt hj; omega)
        obtain ⟨e, k, ns, _, h1, h2⟩ := hioat j i d hj hd
        exact .inr ⟨i, _, h1, h2⟩
    refine ⟨_, hres, _, rfl, hturn, ?_, ?_⟩
    -- the blocks of what is the call's own
    · have hat : ∀ (i : Nat) (d : D), rs[i]? = some d → ∃ r, fn.results.toList[i]? = some r ∧ resD E st r = some d ∧ good r d (g r) := by
        intro i d hi
        obtain ⟨r, hr⟩ := getElem?_of_lt (l := fn.results.toList) (i := i) (by have := getElem?_lt hi; omega)
        obtain ⟨d', h1, h2⟩ := hall' i r hr
        rw [hi] at h1; cases h1
        exact ⟨r, hr, h2, hg r d (List.mem_of_getElem? hr) h2⟩
      let blk (i : Nat) : Nat := match fn.results.toList[i]? with
        | some r => match ownOf st r with
          | some j => ρ j
          | none => 0
        | none => 0
      have hown : ∀ (i : Nat) (d : D), rs[i]? = some d → isOwn d = true → ∃ r j b, fn.results.toList[i]? = some r ∧ ownOf st r = some j ∧ st.hp j = some b ∧ blk i = ρ j := by
        intro i d hi ho
        obtain ⟨r, h1, h2, h3⟩ := hat i d hi
        cases d with
        | own e k ns =>
          obtain ⟨_, j, h4, ⟨b, h5⟩, _⟩ := h3
          exact ⟨r, j, b, h1, h4, h5, by simp only [blk, h1, h4]⟩
        | _ => cases ho
      refine ⟨blk, by simp [hlen'], ?_, ?_⟩
      · intro i j d d' hi hj ho ho' he'
        obtain ⟨r, k, b, h1, h2, h3, h4⟩ := hown i d hi ho
        obtain ⟨r', k', b', h1', h2', h3', h4'⟩ := hown j d' hj ho'
        rw [h4, h4'] at he'
        have := hs.inj k k' b b' h3 h3' he'
        subst this
        exact ownIds_inj hn h1 h1' h2 h2'
      · intro i d v hi hv
        obtain ⟨r, h1, h2, h3⟩ := hat i d hi
        have e : v = g r := by
          rw [List.getElem?_map, h1] at hv
          exact (Option.some.inj hv).symm
        subst e
        have hl : Later (XO X' ρ st.hp) w' (fun b => Y b ∨ ∃ (j : Nat) (d' : D), rs[j]? = some d' ∧ isOwn d' = true ∧ blk j = b) w' := by
          refine ⟨Nat.le_refl _, fun b _ hx => ⟨rfl, fun hb => hx ?_⟩⟩
          rcases hb with hb | ⟨j, d', hj, ho, rfl⟩
          · exact hYO b hb
          · obtain ⟨r', k, b', _, _, h5, h6⟩ := hown j d' hj ho
            exact .inr ⟨k, b', h5, h6.symm⟩
        cases d with
        | own e k ns =>
          obtain ⟨_, j, h4, _, h5⟩ := h3
          have : blk i = ρ j := by simp only [blk, h1, h4]
          show OwnAt _ _ (blk i) _ _ _ _
          rw [this]
          exact h5
        | s x => exact RepD.later hl (d := .s x) h3.2
        | rows sz n fr => exact RepD.later hl (d := .rows sz n fr) h3.2
        | agg cs => exact RepD.later hl (d := .agg cs) h3.2
        | io => exact h3.2.elim
        | back p off n =>
          obtain ⟨_, h4, h5⟩ := h3
          obtain ⟨j, hj⟩ := List.mem_iff_getElem?.1 h4
          obtain ⟨d, hd⟩ := getElem?_of_lt (l := js) (i := j) (by have := getElem?_lt hj; omega)
          obtain ⟨e, k, ns, rfl, h6, h7⟩ := hioat j p d hj hd
          have := h5 _ k ns h6 rfl
          rw [h7] at this
          exact ⟨j, e, k, ns, hj, hd, this⟩
    · intro j i d hj hd
      obtain ⟨e, k, ns, rfl, h1, h2⟩ := hioat j i d hj hd
      have := (hs.blk i _ h1).2
      rw [h2] at this
      exact this
  cases ex with
  | normal => exact key
  | ret => exact key
  | exit i => cases hK

theorem Turned.below {M : Nat → Prop} (hM : ∀ b, ¬ M b) {w w' : World} (h : Turned M w w') : Below w.heap.size w w' := ⟨h.os, h.tape, h.output, h.size, fun k hk => h.block k hk (hM k)⟩

/-- THE CONTRACT OF A FUNCTION, by what the abstract interpreter tells of its text. -/
theorem fn_contract {P : Program} {E : Env} (hT : TyOk P E.T) (hC : CallsOk P E) (hm : P.follows .mixedOrders = true) {f : FuncId} {fn : Func} {c : Code} (hf : P.funcs[f]? = some fn) (hb : fn.body = some c) (hnt : E.nt = fn.ntmps) (hio : E.io = [])
    {ds rs : List D} (hle : ds.length ≤ fn.ntmps) (he : evalFn E fn c ds = some rs) : Contract P E.glob f ds rs := by
  intro Y w vs hY hG hlen hargs
  have hno : ∀ (i : Nat) (d : D), ds[i]? = some d → isIo d = false := by
    intro i d hi
    obtain ⟨v, hv⟩ := getElem?_of_lt (l := vs) (i := i) (by have := getElem?_lt hi; omega)
    have := hargs i d v hi hv
    cases d with
    | io => exact this.elim
    | s => rfl
    | rows => rfl
    | agg => rfl
    | own => rfl
    | back => rfl
  have := fn_core hT hC hm hf hb hnt (rs := rs) (js := []) hle (by rw [List.append_nil]; exact he) (by rw [hio]; rfl) (by rw [hio]; intro i hi; cases hi) (fun i d hi hd => by rw [hno i d hi] at hd; cases hd) (by rw [hio]; intro i hi; cases hi) (g0 := fun _ => 0) hY hG hlen (fun i d v hi hv => argOk_of (hno i d hi) (hargs i d v hi hv)) (by rw [hio]; intro i j hi; cases hi)
  refine this.mono ?_
  rintro e w' ⟨vs', h1, h2, ⟨g, h3, h4, h5⟩, _⟩
  refine ⟨vs', h1, h2.below (fun b => by rintro ⟨i, hi, _⟩; rw [hio] at hi; cases hi), g, h3, h4, fun i d v hi hv => ?_⟩
  have := h5 i d v hi hv
  cases d with
  | own e k ns => exact this
  | s x => exact this
  | rows a b c => exact this
  | agg cs => exact this
  | io => exact this
  | back p off n =>
    obtain ⟨j, e, k, ns, h6, _⟩ := this
    rw [hio] at h6
    simp at h6

/-- The same of a function that writes into slices that are handed over. -/
theorem fn_contractIO {P : Program} {E : Env} (hT : TyOk P E.T) (hC : CallsOk P E) (hm : P.follows .mixedOrders = true) {f : FuncId} {fn : Func} {c : Code} (hf : P.funcs[f]? = some fn) (hb : fn.body = some c) (hnt : E.nt = fn.ntmps) (hlt : ∀ i, i ∈ E.io → i < E.n0)
    {ds rs js : List D} (hle : ds.length ≤ fn.ntmps) (he : evalFn E fn c ds = some (rs ++ js)) (hjl : js.length = E.io.length) (hL : LenOk E.io ds js) (hin : ∀ (i : Nat) (d : D), ds[i]? = some d → isIo d = true → i ∈ E.io) : ContractIO P E.glob f E.io ds rs js := by
  refine ⟨hjl, hL, fun Y w vs g hY hG hlen hargs hinj => ?_⟩
  refine fn_core hT hC hm hf hb hnt hle he hjl hlt hin (fun i hi => ?_) hY hG hlen hargs hinj
  obtain ⟨j, hj⟩ := List.mem_iff_getElem?.1 hi
  obtain ⟨e, k, ns, off, n, _, _, _, h1, _⟩ := hL j i hj
  exact ⟨e, k, ns, off, n, h1⟩

/-- The table of types, off the program. -/
def kindOf (P : Program) : TypeDesc → Option TK
  | .bool => some .bool
  | .int k => some (.int k)
  | .float k => some (.float k)
  | .slice e => some (.slice e)
  | .string => some .str
  | .struct fields => (fields.toList.mapM fun (f : Field) => match P.info? f.type, P.underlying f.type with
    | some fi, some fd => some (f.offset, fi.size, isAggD fd)
    | _, _ => none).map .struct
  | .array len e => match P.info? e, P.underlying e with
    | some ei, some ed => some (.arr len ei.size (isAggD ed))
    | _, _ => none
  | _ => some .other
def tiOf (P : Program) (t : TypeId) : Option TI := match P.info? t, P.underlying t with
  | some i, some d => match i.zero, kindOf P d with
    | some z, some k => some ⟨i.size, i.bytes, z.cells.toList, k⟩
    | _, _ => none
  | _, _ => none
def tiOk (ti : TI) : Bool := Nat.beq ti.zero.length ti.size && ti.zero.all fun v => v.oneCell'

theorem kindOf_ok {P : Program} {d : TypeDesc} {k : TK} (h : kindOf P d = some k) : KindOk P k d := by
  unfold kindOf at h
  split at h
  · cases h; rfl
  · cases h; rfl
  · cases h; rfl
  · cases h; rfl
  · cases h; rfl
  · rename_i fields
    cases hm : (fields.toList.mapM fun (f : Field) => match P.info? f.type, P.underlying f.type with
      | some fi, some fd => some (f.offset, fi.size, isAggD fd)
      | _, _ => none) with
    | none => rw [hm] at h; cases h
    | some fs =>
      rw [hm] at h
      cases h
      obtain ⟨h1, h2⟩ := mapM_all hm
      refine ⟨fields, rfl, by simpa using h1, fun i f hf => ?_⟩
      obtain ⟨y, e1, e2⟩ := h2 i f (by simpa using hf)
      split at e2
      · rename_i fi fd hfi hfd
        cases e2
        exact ⟨fi, fd, hfi, hfd, e1⟩
      · cases e2
  · rename_i len e
    split at h
    · rename_i ei ed hei hed
      cases h
      exact ⟨e, ei, ed, rfl, hei, rfl, hed, rfl⟩
    · cases h
  · rename_i h1 h2 h3 h4 h5 h6 h7
    cases h
    show isAggD d = false
    cases d <;> first | rfl | (exfalso; exact h6 _ rfl) | (exfalso; exact h7 _ _ rfl)

def eqChk (P : Program) (t : TypeId) (ti : TI) : Bool := match plainKinds ti with
  | some ks => (match P.underlying t with
    | some (.struct fields) => !P.stoodInHeld t && (eqChkF P 0 fields.toList ks && !P.eqGuardType P.depth t)
    | _ => false)
  | none => true
theorem eqChk_ok {P : Program} {t : TypeId} {ti : TI} (h : eqChk P t ti = true) (ks : List IntKind) (hk : plainKinds ti = some ks) : EqOk P t ks := by
  unfold eqChk at h
  rw [hk] at h
  simp only at h
  split at h
  · rename_i fields hf
    simp only [Bool.and_eq_true, Bool.not_eq_true'] at h
    exact ⟨fields, hf, h.1, h.2.1, h.2.2⟩
  · cases h
theorem tyOk1_of {P : Program} {t : TypeId} {ti : TI} (h : tiOf P t = some ti) (hk : tiOk ti = true) (hq : eqChk P t ti = true) : TyOk1 P t ti := by
  have heq := eqChk_ok hq
  unfold tiOf at h
  split at h
  · rename_i i d hi hd
    split at h
    · rename_i z k hz hkd
      cases h
      unfold tiOk at hk
      simp only [Bool.and_eq_true] at hk
      exact { i := ⟨i, hi, rfl, rfl, z, hz, rfl⟩, zl := Nat.eq_of_beq_eq_true hk.1, zo := fun v hv => List.all_eq_true.1 hk.2 v hv, d := ⟨d, hd, kindOf_ok hkd⟩, eq := heq }
    · cases h
  · cases h

def tlook {α : Type} : List (Nat × α) → Nat → Option α
  | [], _ => none
  | p :: r, t => bif Nat.beq p.1 t then some p.2 else tlook r t
theorem tlook_mem {α : Type} : ∀ {l : List (Nat × α)} {t : Nat} {x : α}, tlook l t = some x → (t, x) ∈ l
  | [], t, x, h => by cases h
  | p :: r, t, x, h => by
    simp only [tlook] at h
    cases hb : Nat.beq p.1 t with
    | true =>
      rw [hb] at h
      cases h
      have := Nat.eq_of_beq_eq_true hb
      subst this
      exact List.mem_cons_self ..
    | false => rw [hb] at h; exact List.mem_cons_of_mem _ (tlook_mem h)

theorem tyOk_of {P : Program} (tbl : List (Nat × TI)) (h : tbl.map (fun p => tiOf P p.1) = tbl.map fun p => some p.2) (hk : (tbl.all fun p => tiOk p.2) = true) (hq : (tbl.all fun p => eqChk P p.1 p.2) = true) : TyOk P (tlook tbl) := by
  intro t ti ht
  have hm := tlook_mem ht
  have h1 : tiOf P t = some ti := by
    have := List.map_inj_left.1 h (t, ti) hm
    exact this
  exact tyOk1_of h1 (List.all_eq_true.1 hk (t, ti) hm) (List.all_eq_true.1 hq (t, ti) hm)

end Go.Proofs.YtknafopmgaolmaaGreatDoor.AI

/- A piece of code comes to one end: what follows it takes that. So a loop is its first round and the loop again. -/
namespace Go.Proofs.YtknafopmgaolmaaGreatDoor.AI
open Go Go.RowKit

theorem opsK_bind {R : Type} (E : Env) (draw : Bool) (ops : Array Oper) (base : Nat) : ∀ (rest : List Oper) (i : Nat) (recs : List Rec) (st : St) (K : St → Option R),
    opsK E draw ops base rest i recs st K = (opsK E draw ops base rest i recs st some).bind K
  | [], i, recs, st, K => rfl
  | o :: rest, i, recs, st, K => by
    unfold opsK
    cases (dstOk E.nt o && (!draw || edgesOk i o)) with
    | false => rfl
    | true =>
      simp only [cond_true]
      split
      · rw [effK_bind, effK_bind]
        cases eff E (base + 8 * i) o (evA E st.fr) st.hp with
        | none => rfl
        | some p =>
          simp only [Option.bind_some]
          cases (!draw || recs.all fun r => indep ops r i o (touches o (evA E st.fr) p.2) (p.2.map (·.1))) with
          | false => rfl
          | true => exact opsK_bind E draw ops base rest (i + 1) _ _ K
      · split
        · split
          · rename_i want _ _ d _ _ b _
            cases b with
            | true =>
              simp only [cond_true]
              cases (true == want) with
              | true =>
                simp only [cond_true]
                rw [effK_bind, effK_bind]
                cases eff E (base + 8 * i) o (evA E (upd st.fr d (scv (.bool true)))) st.hp with
                | none => rfl
                | some p =>
                  simp only [Option.bind_some]
                  cases (!draw || recs.all fun r => indep ops r i o (touches o (evA E (upd st.fr d (scv (.bool true)))) p.2) (p.2.map (·.1))) with
                  | false => rfl
                  | true => exact opsK_bind E draw ops base rest (i + 1) _ _ K
              | false =>
                simp only [cond_false]
                cases (!draw || recs.all fun r => indep ops r i o [] []) with
                | false => rfl
                | true => exact opsK_bind E draw ops base rest (i + 1) _ _ K
            | false =>
              simp only [cond_false]
              cases (false == want) with
              | true =>
                simp only [cond_true]
                rw [effK_bind, effK_bind]
                cases eff E (base + 8 * i) o (evA E (upd st.fr d (scv (.bool false)))) st.hp with
                | none => rfl
                | some p =>
                  simp only [Option.bind_some]
                  cases (!draw || recs.all fun r => indep ops r i o (touches o (evA E (upd st.fr d (scv (.bool false)))) p.2) (p.2.map (·.1))) with
                  | false => rfl
                  | true => exact opsK_bind E draw ops base rest (i + 1) _ _ K
              | false =>
                simp only [cond_false]
                cases (!draw || recs.all fun r => indep ops r i o [] []) with
                | false => rfl
                | true => exact opsK_bind E draw ops base rest (i + 1) _ _ K
          · cases (!draw || recs.all fun r => indep ops r i o [] []) with
            | false => rfl
            | true => exact opsK_bind E draw ops base rest (i + 1) _ _ K
          · rfl
        · rfl

section
variable (n0 : Nat) (keep : List Nat) (f : St → Option (Ex × St))
/-- The rounds of a loop, n at most. -/
def runs : Nat → List KV → Option (Ex × St)
  | 0, _ => none
  | n + 1, l => (f (mk n0 keep l)).bind fun p => match p.1 with
    | .normal => runs n (canon n0 keep p.2)
    | .exit i => some (.exit i, p.2)
    | .ret => some (.ret, p.2)

theorem runs_mono : ∀ (n k : Nat) (l : List KV) (p : Ex × St), runs n0 keep f n l = some p → runs n0 keep f (n + k) l = some p
  | 0, _, _, _, h => by cases h
  | n + 1, k, l, p, h => by
    rw [Nat.add_right_comm]
    simp only [runs] at h ⊢
    cases hf : f (mk n0 keep l) with
    | none => rw [hf] at h; cases h
    | some q =>
      rw [hf] at h
      simp only [Option.bind_some] at h ⊢
      obtain ⟨ex, st⟩ := q
      cases ex with
      | normal => exact runs_mono n k _ p h
      | exit i => exact h
      | ret => exact h

theorem runs_one {n m : Nat} {l : List KV} {p q : Ex × St} (h : runs n0 keep f n l = some p) (h' : runs n0 keep f m l = some q) : p = q := by
  have h1 := runs_mono n0 keep f n m l p h
  have h2 := runs_mono n0 keep f m n l q h'
  rw [Nat.add_comm m n, h1] at h2
  exact Option.some.inj h2

open Classical in
/-- Where the rounds come to an end: that end. -/
noncomputable def lim (l : List KV) : Option (Ex × St) := if h : ∃ p, ∃ n, runs n0 keep f n l = some p then some (Classical.choose h) else none

theorem lim_of {n : Nat} {l : List KV} {p : Ex × St} (h : runs n0 keep f n l = some p) : lim n0 keep f l = some p := by
  unfold lim
  have hex : ∃ p, ∃ n, runs n0 keep f n l = some p := ⟨p, n, h⟩
  rw [dif_pos hex]
  obtain ⟨m, hm⟩ := Classical.choose_spec hex
  rw [runs_one n0 keep f hm h]

theorem of_lim {l : List KV} {p : Ex × St} (h : lim n0 keep f l = some p) : ∃ n, runs n0 keep f n l = some p := by
  unfold lim at h
  split at h
  · rename_i hex; cases h; exact Classical.choose_spec hex
  · cases h

theorem lim_eq (l : List KV) : lim n0 keep f l = (f (mk n0 keep l)).bind fun p => match p.1 with
    | .normal => lim n0 keep f (canon n0 keep p.2)
    | .exit i => some (.exit i, p.2)
    | .ret => some (.ret, p.2) := by
  cases hf : f (mk n0 keep l) with
  | none =>
    cases hl : lim n0 keep f l with
    | none => rfl
    | some p =>
      obtain ⟨n, hn⟩ := of_lim n0 keep f hl
      cases n with
      | zero => cases hn
      | succ n => simp only [runs, hf] at hn; cases hn
  | some q =>
    obtain ⟨ex, st⟩ := q
    simp only [Option.bind_some]
    cases ex with
    | normal =>
      simp only
      cases hl : lim n0 keep f (canon n0 keep st) with
      | some p =>
        obtain ⟨n, hn⟩ := of_lim n0 keep f hl
        exact lim_of n0 keep f (n := n + 1) (by simp only [runs, hf, Option.bind_some]; exact hn)
      | none =>
        cases hl' : lim n0 keep f l with
        | none => rfl
        | some p =>
          obtain ⟨n, hn⟩ := of_lim n0 keep f hl'
          cases n with
          | zero => cases hn
          | succ n =>
            simp only [runs, hf, Option.bind_some] at hn
            rw [lim_of n0 keep f hn] at hl
            cases hl
    | exit i => exact lim_of n0 keep f (n := 1) (by simp only [runs, hf, Option.bind_some])
    | ret => exact lim_of n0 keep f (n := 1) (by simp only [runs, hf, Option.bind_some])

/-- A round that is told by f. -/
def gOf {R : Type} (K : Ex → St → Option R) (rec : List KV → Option R) (l : List KV) : Option R :=
  (f (mk n0 keep l)).bind fun p => match p.1 with
    | .normal => rec (canon n0 keep p.2)
    | .exit i => K (.exit i) p.2
    | .ret => K .ret p.2

theorem iter_runs {R : Type} (K : Ex → St → Option R) : ∀ (n : Nat) (l : List KV), iter (gOf n0 keep f K) n l = (runs n0 keep f n l).bind fun p => K p.1 p.2
  | 0, _ => rfl
  | n + 1, l => by
    simp only [iter, gOf, runs]
    cases f (mk n0 keep l) with
    | none => rfl
    | some q =>
      obtain ⟨ex, st⟩ := q
      simp only [Option.bind_some]
      cases ex with
      | normal => exact iter_runs K n _
      | exit i => rfl
      | ret => rfl

theorem fix_lim {R : Type} (K : Ex → St → Option R) (l : List KV) : fix (gOf n0 keep f K) l = (lim n0 keep f l).bind fun p => K p.1 p.2 := by
  cases hl : lim n0 keep f l with
  | none =>
    unfold fix
    rw [dif_neg]
    · rfl
    · rintro ⟨r, n, h⟩
      rw [iter_runs] at h
      cases hr : runs n0 keep f n l with
      | none => rw [hr] at h; cases h
      | some p => rw [lim_of n0 keep f hr] at hl; cases hl
  | some p =>
    obtain ⟨n, hn⟩ := of_lim n0 keep f hl
    simp only [Option.bind_some]
    cases hK : K p.1 p.2 with
    | some r =>
      unfold fix
      have hex : ∃ r, ∃ n, iter (gOf n0 keep f K) n l = some r := ⟨r, n, by rw [iter_runs, hn]; exact hK⟩
      rw [dif_pos hex]
      obtain ⟨m, hm⟩ := Classical.choose_spec hex
      rw [iter_runs] at hm
      cases hr : runs n0 keep f m l with
      | none => rw [hr] at hm; cases hm
      | some q =>
        rw [hr, runs_one n0 keep f hr hn] at hm
        simp only [Option.bind_some] at hm
        rw [hK] at hm
        exact hm.symm
    | none =>
      unfold fix
      rw [dif_neg]
      rintro ⟨r, m, h⟩
      rw [iter_runs] at h
      cases hr : runs n0 keep f m l with
      | none => rw [hr] at h; cases h
      | some q =>
        rw [hr, runs_one n0 keep f hr hn] at h
        simp only [Option.bind_some] at h
        rw [hK] at h
        cases h

theorem fix_gOf {R : Type} (K : Ex → St → Option R) (l : List KV) : fix (gOf n0 keep f K) l = gOf n0 keep f K (fix (gOf n0 keep f K)) l := by
  rw [fix_lim, lim_eq]
  unfold gOf
  cases f (mk n0 keep l) with
  | none => rfl
  | some q =>
    obtain ⟨ex, st⟩ := q
    simp only [Option.bind_some]
    cases ex with
    | normal => exact (fix_lim n0 keep f K _).symm
    | exit i => rfl
    | ret => rfl
end

def condSt (c : Operand) (st : St) : Option (Bool × St) := match c with
  | .tmp s => match st.fr s with
    | .v (.one (.s (.sc (.bool t)))) => some (t, ⟨upd st.fr s (scv (.bool t)), st.hp, st.n⟩)
    | _ => none
  | .const (.bool t) => some (t, st)
  | _ => none
theorem cond_condSt {R : Type} (E : Env) (c : Operand) (a b : Code) (st : St) (K : Ex → St → Option R) : evalCode E (.cond c a b) st K = (condSt c st).bind fun p => bif p.1 then evalCode E a p.2 K else evalCode E b p.2 K := by
  cases c with
  | tmp s =>
    simp only [evalCode, condSt]
    split
    · rename_i t h
      simp only [h, Option.bind_some]
      cases t <;> rfl
    · rename_i h
      split
      · rename_i t h'; exact (h t h').elim
      · rfl
  | const v => cases v <;> simp only [evalCode, condSt] <;> rfl
  | _ => simp only [evalCode, condSt]; rfl

theorem evalCode_bind (E : Env) (c : Code) : ∃ f : St → Option (Ex × St), ∀ (st : St) {R : Type} (K : Ex → St → Option R), evalCode E c st K = (f st).bind fun p => K p.1 p.2 := by
  induction c with
  | skip => exact ⟨fun st => some (.normal, st), fun st R K => rfl⟩
  | label l => exact ⟨fun st => some (.normal, st), fun st R K => rfl⟩
  | exit id => exact ⟨fun st => some (.exit id, st), fun st R K => rfl⟩
  | ret => exact ⟨fun st => some (.ret, st), fun st R K => rfl⟩
  | region id ops draw =>
    refine ⟨fun st => (opsK E draw ops st.n ops.toList 0 [] st some).bind fun st' => some (.normal, ⟨st'.fr, st'.hp, st.n + 8 * ops.size⟩), fun st R K => ?_⟩
    unfold evalCode
    rw [opsK_bind]
    simp only []
    cases opsK E draw ops st.n ops.toList 0 [] st some <;> rfl
  | seq a b iha ihb =>
    obtain ⟨f, hf⟩ := iha
    obtain ⟨g, hg⟩ := ihb
    refine ⟨fun st => (f st).bind fun p => match p.1 with
      | .normal => match E.cut (keyOf b) with
        | some keep => g (mk E.n0 keep (canon E.n0 keep p.2))
        | none => g p.2
      | .exit i => some (.exit i, p.2)
      | .ret => some (.ret, p.2), fun st R K => ?_⟩
    unfold evalCode
    rw [hf]
    simp only []
    cases f st with
    | none => rfl
    | some q =>
      obtain ⟨ex, st'⟩ := q
      cases ex with
      | normal =>
        simp only [Option.bind_some]
        cases E.cut (keyOf b) with
        | none => exact hg st' K
        | some keep => exact hg _ K
      | exit i => rfl
      | ret => rfl
  | cond cd a b iha ihb =>
    obtain ⟨f, hf⟩ := iha
    obtain ⟨g, hg⟩ := ihb
    refine ⟨fun st => (condSt cd st).bind fun p => bif p.1 then f p.2 else g p.2, fun st R K => ?_⟩
    rw [cond_condSt]
    simp only []
    cases condSt cd st with
    | none => rfl
    | some p =>
      obtain ⟨t, st'⟩ := p
      cases t with
      | true => exact hf _ K
      | false => exact hg _ K
  | block id c ih =>
    obtain ⟨f, hf⟩ := ih
    refine ⟨fun st => (f st).bind fun p => match p.1 with
      | .normal => some (.normal, p.2)
      | .exit i => bif Nat.beq i id then some (.normal, p.2) else some (.exit i, p.2)
      | .ret => some (.ret, p.2), fun st R K => ?_⟩
    unfold evalCode
    rw [hf]
    simp only []
    cases f st with
    | none => rfl
    | some q =>
      obtain ⟨ex, st'⟩ := q
      cases ex with
      | normal => rfl
      | exit i =>
        simp only [Option.bind_some]
        cases Nat.beq i id <;> rfl
      | ret => rfl
  | loop c ih =>
    obtain ⟨f, hf⟩ := ih
    have hG : ∀ {R : Type} (keep : List Nat) (K : Ex → St → Option R), (fun (rec : List KV → Option R) l => evalCode E c (mk E.n0 keep l) fun ex st' => match ex with
        | .normal => rec (canon E.n0 keep st')
        | .exit i => K (.exit i) st'
        | .ret => K .ret st') = gOf E.n0 keep f K := by
      intro R keep K
      funext rec l
      rw [hf]
      unfold gOf
      cases f (mk E.n0 keep l) with
      | none => rfl
      | some q => obtain ⟨ex, st'⟩ := q; cases ex <;> rfl
    refine ⟨fun st => match E.roll (keyOf c) with
      | some n => runs E.n0 (E.keep (keyOf c)) f n (canon E.n0 (E.keep (keyOf c)) st)
      | none => lim E.n0 (E.keep (keyOf c)) f (canon E.n0 (E.keep (keyOf c)) st), fun st R K => ?_⟩
    simp only [evalCode]
    cases E.roll (keyOf c) with
    | some n => exact (congrArg (fun G => iter G n (canon E.n0 (E.keep (keyOf c)) st)) (hG _ K)).trans (iter_runs _ _ _ _ _ _)
    | none => exact (congrArg (fun G => fix G (canon E.n0 (E.keep (keyOf c)) st)) (hG _ K)).trans (fix_lim _ _ _ _ _)
  | rangeFunc f ps x y _ _ => exact ⟨fun _ => none, fun st R K => rfl⟩
  | scope c ih =>
    obtain ⟨f, hf⟩ := ih
    exact ⟨f, fun st R K => by unfold evalCode; exact hf st K⟩
  | goto l => exact ⟨fun _ => none, fun st R K => rfl⟩
  | refuse why => exact ⟨fun _ => none, fun st R K => rfl⟩

/-- A LOOP IS ITS FIRST ROUND AND THE LOOP AGAIN. -/
theorem loop_eq {R : Type} (E : Env) (keep : List Nat) (c : Code) (K : Ex → St → Option R) (l : List KV) :
    fix (roundOf (evalCode E) E.n0 keep c K) l = roundOf (evalCode E) E.n0 keep c K (fix (roundOf (evalCode E) E.n0 keep c K)) l := by
  obtain ⟨f, hf⟩ := evalCode_bind E c
  have hG : roundOf (evalCode E) E.n0 keep c K = gOf E.n0 keep f K := by
    funext rec l
    unfold roundOf
    rw [hf]
    unfold gOf
    cases f (mk E.n0 keep l) with
    | none => rfl
    | some q => obtain ⟨ex, st'⟩ := q; cases ex <;> rfl
  rw [hG]
  exact fix_gOf E.n0 keep f K l

/-- A loop of a function, by its name, from what its head keeps. -/
noncomputable def loopAt (E : Env) (fn : Func) (c : Code) (key : Nat) (l : List KV) : Option (List D) :=
  match findLoop E key c (endK E fn) with
  | some (b, K) => fix (roundOf (evalCode E) E.n0 (E.keep key) b K) l
  | none => none
noncomputable def roundAt (E : Env) (fn : Func) (c : Code) (key : Nat) (l : List KV) : Option (List D) :=
  match findLoop E key c (endK E fn) with
  | some (b, K) => roundOf (evalCode E) E.n0 (E.keep key) b K (fix (roundOf (evalCode E) E.n0 (E.keep key) b K)) l
  | none => none
theorem loopAt_eq (E : Env) (fn : Func) (c : Code) (key : Nat) (l : List KV) : loopAt E fn c key l = roundAt E fn c key l := by
  unfold loopAt roundAt
  cases findLoop E key c (endK E fn) with
  | none => rfl
  | some p => exact loop_eq E _ p.1 p.2 l

/-- What follows a cut of a function, from what is kept there. -/
noncomputable def cutAt (E : Env) (fn : Func) (c : Code) (key : Nat) (l : List KV) : Option (List D) :=
  match findCut E key c (endK E fn), E.cut key with
  | some (b, K), some keep => cutHere key l fun l => evalCode E b (mk E.n0 keep l) K
  | _, _ => none

noncomputable def cutOpen (E : Env) (fn : Func) (c : Code) (key : Nat) (l : List KV) : Option (List D) :=
  match findCut E key c (endK E fn), E.cut key with
  | some (b, K), some keep => evalCode E b (mk E.n0 keep l) K
  | _, _ => none
theorem cutAt_eq (E : Env) (fn : Func) (c : Code) (key : Nat) (l : List KV) : cutAt E fn c key l = cutOpen E fn c key l := by
  unfold cutAt cutOpen cutHere
  rfl

end Go.Proofs.YtknafopmgaolmaaGreatDoor.AI

/- Tables of contracts. -/
namespace Go.Proofs.YtknafopmgaolmaaGreatDoor.AI
open Go Go.RowKit

theorem Contract.of {P : Program} {G : Nat → Option (IntKind × List Int)} {f : FuncId} {ds ds' rs : List D} (h : Contract P G f ds' rs) (hl : ds.length = ds'.length)
    (hd : ∀ (i : Nat) (d d' : D), ds[i]? = some d → ds'[i]? = some d' → ∀ (Y : Nat → Prop) (w : World) (v : Value), RepD Y w d v → RepD Y w d' v) : Contract P G f ds rs := by
  intro Y w vs hY hG hlen hargs
  refine h Y w vs hY hG (by omega) fun i d' v hi hv => ?_
  obtain ⟨d, hd'⟩ := getElem?_of_lt (l := ds) (i := i) (by have := getElem?_lt hi; omega)
  exact hd i d d' hd' hi Y w v (hargs i d v hd' hv)

/-- Numbers of a slice that is handed over: of a nil one: none. -/
def dI (k : IntKind) : D → Option (List Int)
  | .s (.ints k' ns) => if _h : k = k' then some ns else none
  | .s (.sc (.slice none 0 0)) => some []
  | _ => none
def dN (k : IntKind) : D → Option Int
  | .s (.sc (.int k' n)) => if _h : k = k' then some n else none
  | _ => none
def dB : D → Option Bool
  | .s (.sc (.bool b)) => some b
  | _ => none

def DLe (d d' : D) : Prop := ∀ (Y : Nat → Prop) (w : World) (v : Value), RepD Y w d v → RepD Y w d' v
theorem DLe.refl (d : D) : DLe d d := fun _ _ _ h => h
theorem dI_le {k : IntKind} {d : D} {ns : List Int} (h : dI k d = some ns) : DLe d (.s (.ints k ns)) := by
  intro Y w v hr
  unfold dI at h
  split at h
  · split at h
    · rename_i hk; cases h; subst hk; exact hr
    · cases h
  · cases h
    obtain ⟨rfl, _⟩ := hr
    exact ⟨none, 0, rfl, Nat.le_refl _, fun i n hn => by simp at hn⟩
  · cases h
theorem dN_eq {k : IntKind} {d : D} {n : Int} (h : dN k d = some n) : d = .s (.sc (.int k n)) := by
  unfold dN at h
  split at h
  · split at h
    · rename_i hk; cases h; subst hk; rfl
    · cases h
  · cases h
theorem dN_le {k : IntKind} {d : D} {n : Int} (h : dN k d = some n) : DLe d (.s (.sc (.int k n))) := by rw [dN_eq h]; exact DLe.refl _
theorem dB_eq {d : D} {b : Bool} (h : dB d = some b) : d = .s (.sc (.bool b)) := by
  unfold dB at h
  split at h
  · cases h; rfl
  · cases h
theorem dB_le {d : D} {b : Bool} (h : dB d = some b) : DLe d (.s (.sc (.bool b))) := by rw [dB_eq h]; exact DLe.refl _

theorem Contract.of1 {P : Program} {G : Nat → Option (IntKind × List Int)} {f : FuncId} {d d' : D} {rs : List D} (h : Contract P G f [d'] rs) (hd : DLe d d') : Contract P G f [d] rs :=
  h.of rfl fun i x x' hx hx' => by
    match i with
    | 0 => simp at hx hx'; subst hx; subst hx'; exact hd
    | i + 1 => simp at hx
theorem Contract.of2 {P : Program} {G : Nat → Option (IntKind × List Int)} {f : FuncId} {d d' e e' : D} {rs : List D} (h : Contract P G f [d', e'] rs) (hd : DLe d d') (he : DLe e e') : Contract P G f [d, e] rs :=
  h.of rfl fun i x x' hx hx' => by
    match i with
    | 0 => simp at hx hx'; subst hx; subst hx'; exact hd
    | 1 => simp at hx hx'; subst hx; subst hx'; exact he
    | i + 2 => simp at hx
theorem Contract.of3 {P : Program} {G : Nat → Option (IntKind × List Int)} {f : FuncId} {d d' e e' g g' : D} {rs : List D} (h : Contract P G f [d', e', g'] rs) (hd : DLe d d') (he : DLe e e') (hg : DLe g g') : Contract P G f [d, e, g] rs :=
  h.of rfl fun i x x' hx hx' => by
    match i with
    | 0 => simp at hx hx'; subst hx; subst hx'; exact hd
    | 1 => simp at hx hx'; subst hx; subst hx'; exact he
    | 2 => simp at hx hx'; subst hx; subst hx'; exact hg
    | i + 3 => simp at hx
theorem Contract.of4 {P : Program} {G : Nat → Option (IntKind × List Int)} {f : FuncId} {d d' e e' g g' k k' : D} {rs : List D} (h : Contract P G f [d', e', g', k'] rs) (hd : DLe d d') (he : DLe e e') (hg : DLe g g') (hk : DLe k k') : Contract P G f [d, e, g, k] rs :=
  h.of rfl fun i x x' hx hx' => by
    match i with
    | 0 => simp at hx hx'; subst hx; subst hx'; exact hd
    | 1 => simp at hx hx'; subst hx; subst hx'; exact he
    | 2 => simp at hx hx'; subst hx; subst hx'; exact hg
    | 3 => simp at hx hx'; subst hx; subst hx'; exact hk
    | i + 4 => simp at hx

/-- What a function is known to answer: where 'g' holds, 'rs'. -/
abbrev Orc := List D → Option (Prop × List D)
def OrcOk (P : Program) (G : Nat → Option (IntKind × List Int)) (f : FuncId) (o : Orc) : Prop :=
  ∀ ds g rs, o ds = some (g, rs) → g → Contract P G f ds rs ∧ HasBody P f
def callsOf (tbl : List (Nat × Orc)) (f : FuncId) (ds : List D) : Option (Prop × List D) := match tlook tbl f with
  | some o => o ds
  | none => none
theorem callsOk_of {P : Program} {E : Env} (tbl : List (Nat × Orc)) (hC : E.C = callsOf tbl) (h : ∀ p ∈ tbl, OrcOk P E.glob p.1 p.2)
    (hx : ∀ f vs g rs, E.ext f vs = some (g, rs) → g → (∀ v ∈ rs, v.oneCell' = true) ∧ ∀ w, (callFunc f vs.toArray).run P w = .ok (.value (resV rs)) w) (hF : E.ioF = (fun _ => []) := by rfl) : CallsOk P E := by
  refine ⟨fun f ds g rs _ he hg => ?_, fun f p ps ds g rs he => (by rw [hF] at he; cases he), hx⟩
  rw [hC] at he
  unfold callsOf at he
  split at he
  · rename_i o ho
    exact h _ (tlook_mem ho) ds g rs he hg
  · cases he

theorem orcs_nil {P : Program} {G : Nat → Option (IntKind × List Int)} : ∀ p ∈ ([] : List (Nat × Orc)), OrcOk P G p.1 p.2 := fun _ h => by cases h
theorem orcs_cons {P : Program} {G : Nat → Option (IntKind × List Int)} {f : Nat} {o : Orc} {tbl : List (Nat × Orc)} (h : OrcOk P G f o) (ht : ∀ p ∈ tbl, OrcOk P G p.1 p.2) : ∀ p ∈ (f, o) :: tbl, OrcOk P G p.1 p.2 := by
  intro p hp
  rcases List.mem_cons.1 hp with rfl | hp
  · exact h
  · exact ht p hp

/-- The same of functions that write into the first slice that is handed over. -/
def OrcIO (P : Program) (G : Nat → Option (IntKind × List Int)) (f : FuncId) (o : Orc) : Prop :=
  ∀ ds g rs, o ds = some (g, rs) → g → (∃ rs1 js, rs = rs1 ++ js ∧ ContractIO P G f [0] ds rs1 js) ∧ HasBody P f
def callsIO (tio : List (Nat × Orc)) (r : FuncId → List D → Option (Prop × List D)) (f : FuncId) (ds : List D) : Option (Prop × List D) := match tlook tio f with
  | some o => o ds
  | none => r f ds
def ioOf (tio : List (Nat × Orc)) (f : FuncId) : List Nat := match tlook tio f with
  | some _ => [0]
  | none => []
theorem callsOkIO_of {P : Program} {E : Env} (tio tbl : List (Nat × Orc)) (hC : E.C = callsIO tio (callsOf tbl)) (hF : E.ioF = ioOf tio) (hi : ∀ p ∈ tio, OrcIO P E.glob p.1 p.2) (h : ∀ p ∈ tbl, OrcOk P E.glob p.1 p.2)
    (hx : ∀ f vs g rs, E.ext f vs = some (g, rs) → g → (∀ v ∈ rs, v.oneCell' = true) ∧ ∀ w, (callFunc f vs.toArray).run P w = .ok (.value (resV rs)) w) : CallsOk P E := by
  refine ⟨fun f ds g rs h0 he hg => ?_, fun f p ps ds g rs h0 he hg => ?_, hx⟩
  · rw [hF] at h0
    rw [hC] at he
    unfold ioOf at h0
    unfold callsIO at he
    cases ht : tlook tio f with
    | some o => rw [ht] at h0; cases h0
    | none =>
      rw [ht] at he
      simp only at he
      unfold callsOf at he
      split at he
      · rename_i o ho
        exact h _ (tlook_mem ho) ds g rs he hg
      · cases he
  · rw [hF] at h0
    rw [hC] at he
    unfold ioOf at h0
    unfold callsIO at he
    cases ht : tlook tio f with
    | none => rw [ht] at h0; cases h0
    | some o =>
      rw [ht] at h0 he
      simp only at h0 he
      cases h0
      obtain ⟨⟨rs1, js, h1, h2⟩, h3⟩ := hi _ (tlook_mem ht) ds g rs he hg
      exact ⟨rs1, js, h1, h2, h3⟩
theorem ios_nil {P : Program} {G : Nat → Option (IntKind × List Int)} : ∀ p ∈ ([] : List (Nat × Orc)), OrcIO P G p.1 p.2 := fun _ h => by cases h
theorem ios_cons {P : Program} {G : Nat → Option (IntKind × List Int)} {f : Nat} {o : Orc} {tbl : List (Nat × Orc)} (h : OrcIO P G f o) (ht : ∀ p ∈ tbl, OrcIO P G p.1 p.2) : ∀ p ∈ (f, o) :: tbl, OrcIO P G p.1 p.2 := by
  intro p hp
  rcases List.mem_cons.1 hp with rfl | hp
  · exact h
  · exact ht p hp
theorem ContractIO.of0 {P : Program} {G : Nat → Option (IntKind × List Int)} {f : FuncId} {d : D} {ds ds' rs js : List D} (h : ContractIO P G f [0] (d :: ds') rs js) (hl : ds.length = ds'.length)
    (hd : ∀ (i : Nat) (x x' : D), ds[i]? = some x → ds'[i]? = some x' → isIo x = false ∧ isIo x' = false ∧ DLe x x') : ContractIO P G f [0] (d :: ds) rs js := by
  refine ⟨h.len, fun j i hj => ?_, fun Y w vs g hY hG hlen hargs hinj => ?_⟩
  · obtain ⟨e, k, ns, off, n, e', k', ns', h1, h2, h3⟩ := h.io j i hj
    have hi : i = 0 := by
      match j with
      | 0 => simp at hj; exact hj.symm
      | j + 1 => simp at hj
    subst hi
    exact ⟨e, k, ns, off, n, e', k', ns', by simpa using h1, h2, h3⟩
  · refine h.run Y w vs g hY hG (by simp at hlen ⊢; omega) (fun i x' v hi hv => ?_) hinj
    match i with
    | 0 => exact hargs 0 x' v (by simpa using hi) hv
    | i + 1 =>
      have hi : ds'[i]? = some x' := by simpa using hi
      obtain ⟨x, hx⟩ := getElem?_of_lt (l := ds) (i := i) (by have := getElem?_lt hi; omega)
      obtain ⟨h1, h2, h3⟩ := hd i x x' hx hi
      exact argOk_of h2 (h3 Y w v (repD_of h1 (hargs (i + 1) x v (by simpa using hx) hv)))

/-- No function without a Go text is known. -/
def ExtOk (P : Program) (ext : FuncId → List Value → Option (Prop × List Value)) : Prop := ∀ f vs g rs, ext f vs = some (g, rs) → g → (∀ v ∈ rs, v.oneCell' = true) ∧ ∀ w, (callFunc f vs.toArray).run P w = .ok (.value (resV rs)) w
theorem noExt {P : Program} {E : Env} (h : E.ext = fun _ _ => none) : ∀ f vs g rs, E.ext f vs = some (g, rs) → g → (∀ v ∈ rs, v.oneCell' = true) ∧ ∀ w, (callFunc f vs.toArray).run P w = .ok (.value (resV rs)) w := by
  intro f vs g rs he
  rw [h] at he
  cases he

end Go.Proofs.YtknafopmgaolmaaGreatDoor.AI

/- The same reckoning, where loops and cuts are met by name alone. -/
namespace Go.Proofs.YtknafopmgaolmaaGreatDoor.AI
open Go Go.RowKit

section
variable {R : Type} (E : Env) (J L : Nat → List KV → Option R)

noncomputable def evalJ : Code → St → (Ex → St → Option R) → Option R
  | .skip, st, K => K .normal st
  | .label _, st, K => K .normal st
  | .region _ ops draw, st, K => opsK E draw ops st.n ops.toList 0 [] st fun st' => K .normal ⟨st'.fr, st'.hp, st.n + 8 * ops.size⟩
  | .seq a b, st, K => evalJ a st fun ex st' => match ex with
    | .normal => match E.cut (keyOf b) with
      | some keep => J (keyOf b) (canon E.n0 keep st')
      | none => evalJ b st' K
    | .exit i => K (.exit i) st'
    | .ret => K .ret st'
  | .cond c a b, st, K => match c with
    | .tmp s => match st.fr s with
      | .v (.one (.s (.sc (.bool t)))) => bcase t (evalJ a ⟨upd st.fr s (scv (.bool true)), st.hp, st.n⟩ K) (evalJ b ⟨upd st.fr s (scv (.bool false)), st.hp, st.n⟩ K)
      | _ => none
    | .const (.bool t) => bcase t (evalJ a st K) (evalJ b st K)
    | _ => none
  | .block id c, st, K => evalJ c st fun ex st' => match ex with
    | .normal => K .normal st'
    | .exit i => bif Nat.beq i id then K .normal st' else K (.exit i) st'
    | .ret => K .ret st'
  | .exit id, st, K => K (.exit id) st
  | .ret, st, K => K .ret st
  | .loop c, st, _ => L (keyOf c) (canon E.n0 (E.keep (keyOf c)) st)
  | .scope c, st, K => evalJ c st K
  | _, _, _ => none

/-- What comes behind the first of two. -/
noncomputable def seqKJ (b : Code) (K : Ex → St → Option R) (ex : Ex) (st' : St) : Option R := match ex with
  | .normal => match E.cut (keyOf b) with
    | some keep => J (keyOf b) (canon E.n0 keep st')
    | none => evalJ E J L b st' K
  | .exit i => K (.exit i) st'
  | .ret => K .ret st'
/-- What comes behind a loop's round. -/
noncomputable def loopKJ (c : Code) (K : Ex → St → Option R) (ex : Ex) (st' : St) : Option R := match ex with
  | .normal => L (keyOf c) (canon E.n0 (E.keep (keyOf c)) st')
  | .exit i => K (.exit i) st'
  | .ret => K .ret st'
noncomputable def findLoopJ (key : Nat) : Code → (Ex → St → Option R) → Option (Code × (Ex → St → Option R))
  | .seq a b, K => (findLoopJ key a (seqKJ E J L b K)).or (findLoopJ key b K)
  | .cond _ a b, K => (findLoopJ key a K).or (findLoopJ key b K)
  | .block id c, K => findLoopJ key c (blockK id K)
  | .loop c, K => bif Nat.beq (keyOf c) key then some (c, K) else findLoopJ key c (loopKJ E L c K)
  | .scope c, K => findLoopJ key c K
  | _, _ => none
noncomputable def findCutJ (key : Nat) : Code → (Ex → St → Option R) → Option (Code × (Ex → St → Option R))
  | .seq a b, K => bif Nat.beq (keyOf b) key then some (b, K) else (findCutJ key a (seqKJ E J L b K)).or (findCutJ key b K)
  | .cond _ a b, K => (findCutJ key a K).or (findCutJ key b K)
  | .block id c, K => findCutJ key c (blockK id K)
  | .loop c, K => findCutJ key c (loopKJ E L c K)
  | .scope c, K => findCutJ key c K
  | _, _ => none
end

/-- The names of loops; of cuts. -/
def loopKeys : Code → List Nat
  | .seq a b => loopKeys a ++ loopKeys b
  | .cond _ a b => loopKeys a ++ loopKeys b
  | .block _ c => loopKeys c
  | .loop c => keyOf c :: loopKeys c
  | .scope c => loopKeys c
  | _ => []
def cutKeys (E : Env) : Code → List Nat
  | .seq a b => (match E.cut (keyOf b) with | some _ => [keyOf b] | none => []) ++ (cutKeys E a ++ cutKeys E b)
  | .cond _ a b => cutKeys E a ++ cutKeys E b
  | .block _ c => cutKeys E c
  | .loop c => cutKeys E c
  | .scope c => cutKeys E c
  | _ => []

theorem nodup_iff : ∀ {xs : List Nat}, nodup xs = true ↔ xs.Nodup
  | [] => by simp [nodup]
  | x :: xs => by
    have ih := nodup_iff (xs := xs)
    simp only [nodup, Bool.and_eq_true, Bool.not_eq_true', List.nodup_cons, ih]
    constructor
    · rintro ⟨h1, h2⟩
      refine ⟨fun hm => ?_, h2⟩
      have : xs.elem x = true := List.elem_eq_true_of_mem hm
      rw [this] at h1; cases h1
    · rintro ⟨h1, h2⟩
      refine ⟨?_, h2⟩
      cases hb : xs.elem x with
      | false => rfl
      | true => exact (h1 (List.mem_of_elem_eq_true hb)).elim

section
variable {R : Type} (E : Env)

theorem findLoop_keys (key : Nat) : ∀ (c : Code) (K : Ex → St → Option R), (findLoop E key c K).isSome = true ↔ key ∈ loopKeys c := by
  intro c
  induction c with
  | seq a b iha ihb =>
    intro K
    simp only [findLoop, loopKeys, List.mem_append, Option.isSome_or, Bool.or_eq_true, iha, ihb]
  | cond cd a b iha ihb =>
    intro K
    simp only [findLoop, loopKeys, List.mem_append, Option.isSome_or, Bool.or_eq_true, iha, ihb]
  | block id c ih => intro K; simp only [findLoop, loopKeys, ih]
  | scope c ih => intro K; simp only [findLoop, loopKeys, ih]
  | loop c ih =>
    intro K
    simp only [findLoop, loopKeys, List.mem_cons]
    cases hb : Nat.beq (keyOf c) key with
    | true => simp [(Nat.eq_of_beq_eq_true hb)]
    | false =>
      have : key ≠ keyOf c := fun h => by subst h; rw [Nat.beq_refl] at hb; cases hb
      simp only [cond_false, ih, this, false_or]
  | _ => intro K; simp [findLoop, loopKeys]

theorem cutKeys_some {key : Nat} : ∀ {c : Code}, key ∈ cutKeys E c → (E.cut key).isSome = true := by
  intro c
  induction c with
  | seq a b iha ihb =>
    intro h
    simp only [cutKeys, List.mem_append] at h
    rcases h with h | h | h
    · split at h
      · rename_i keep hk; simp at h; subst h; rw [hk]; rfl
      · cases h
    · exact iha h
    · exact ihb h
  | cond cd a b iha ihb =>
    intro h
    simp only [cutKeys, List.mem_append] at h
    exact h.elim iha ihb
  | block id c ih => intro h; exact ih h
  | scope c ih => intro h; exact ih h
  | loop c ih => intro h; exact ih h
  | _ => intro h; simp [cutKeys] at h

theorem findCut_keys {key : Nat} (hk : (E.cut key).isSome = true) : ∀ (c : Code) (K : Ex → St → Option R), (findCut E key c K).isSome = true ↔ key ∈ cutKeys E c := by
  intro c
  induction c with
  | seq a b iha ihb =>
    intro K
    simp only [findCut, cutKeys, List.mem_append]
    cases hb : Nat.beq (keyOf b) key with
    | true =>
      have := Nat.eq_of_beq_eq_true hb
      subst this
      cases hc : E.cut (keyOf b) with
      | none => rw [hc] at hk; cases hk
      | some x => simp
    | false =>
      have hn : key ≠ keyOf b := fun h => by subst h; rw [Nat.beq_refl] at hb; cases hb
      simp only [cond_false, Option.isSome_or, Bool.or_eq_true, iha, ihb]
      constructor
      · intro h; exact .inr h
      · rintro (h | h)
        · split at h
          · simp at h; exact (hn h).elim
          · cases h
        · exact h
  | cond cd a b iha ihb =>
    intro K
    simp only [findCut, cutKeys, List.mem_append, Option.isSome_or, Bool.or_eq_true, iha, ihb]
  | block id c ih => intro K; simp only [findCut, cutKeys, ih]
  | scope c ih => intro K; simp only [findCut, cutKeys, ih]
  | loop c ih => intro K; simp only [findCut, cutKeys, ih]
  | _ => intro K; simp [findCut, cutKeys]

theorem or_left {α : Type} {x y : Option α} (h : x.isSome = true) : x.or y = x := by cases x <;> simp_all
theorem or_right {α : Type} {x y : Option α} (h : ¬ x.isSome = true) : x.or y = y := by cases x <;> simp_all

/-- What lies at a place of a text is found by its names from the text's head. -/
structure Sub (c0 : Code) (K0 : Ex → St → Option R) (c : Code) (K : Ex → St → Option R) : Prop where
  lp : ∀ key, key ∈ loopKeys c → findLoop E key c0 K0 = findLoop E key c K
  ct : ∀ key, key ∈ cutKeys E c → findCut E key c0 K0 = findCut E key c K
  dl : (loopKeys c).Nodup
  dc : (cutKeys E c).Nodup

variable {E} {c0 : Code} {K0 : Ex → St → Option R}
theorem Sub.seq1 {a b : Code} {K : Ex → St → Option R} (h : Sub E c0 K0 (.seq a b) K) : Sub E c0 K0 a (seqK E b K) := by
  have hl := h.dl
  have hc := h.dc
  simp only [loopKeys] at hl
  simp only [cutKeys] at hc
  refine ⟨fun key hk => ?_, fun key hk => ?_, (List.nodup_append.1 hl).1, (List.nodup_append.1 (List.nodup_append.1 hc).2.1).1⟩
  · rw [h.lp key (by simp only [loopKeys, List.mem_append]; exact .inl hk), findLoop]
    exact or_left ((findLoop_keys E key a _).2 hk)
  · rw [h.ct key (by simp only [cutKeys, List.mem_append]; exact .inr (.inl hk)), findCut]
    have hs := cutKeys_some E hk
    cases hb : Nat.beq (keyOf b) key with
    | true =>
      exfalso
      have := Nat.eq_of_beq_eq_true hb
      subst this
      cases hx : E.cut (keyOf b) with
      | none => rw [hx] at hs; cases hs
      | some x =>
        rw [hx] at hc
        exact (List.nodup_append.1 hc).2.2 (keyOf b) (by simp) (keyOf b) (List.mem_append.2 (.inl hk)) rfl
    | false =>
      simp only [cond_false]
      exact or_left ((findCut_keys E hs a _).2 hk)
theorem Sub.seq2 {a b : Code} {K : Ex → St → Option R} (h : Sub E c0 K0 (.seq a b) K) : Sub E c0 K0 b K := by
  have hl := h.dl
  have hc := h.dc
  simp only [loopKeys] at hl
  simp only [cutKeys] at hc
  refine ⟨fun key hk => ?_, fun key hk => ?_, (List.nodup_append.1 hl).2.1, (List.nodup_append.1 (List.nodup_append.1 hc).2.1).2.1⟩
  · rw [h.lp key (by simp only [loopKeys, List.mem_append]; exact .inr hk), findLoop]
    refine or_right fun hx => ?_
    exact (List.nodup_append.1 hl).2.2 key ((findLoop_keys E key a _).1 hx) key hk rfl
  · rw [h.ct key (by simp only [cutKeys, List.mem_append]; exact .inr (.inr hk)), findCut]
    have hs := cutKeys_some E hk
    cases hb : Nat.beq (keyOf b) key with
    | true =>
      exfalso
      have := Nat.eq_of_beq_eq_true hb
      subst this
      cases hx : E.cut (keyOf b) with
      | none => rw [hx] at hs; cases hs
      | some x =>
        rw [hx] at hc
        exact (List.nodup_append.1 hc).2.2 (keyOf b) (by simp) (keyOf b) (List.mem_append.2 (.inr hk)) rfl
    | false =>
      simp only [cond_false]
      refine or_right fun hx => ?_
      exact (List.nodup_append.1 (List.nodup_append.1 hc).2.1).2.2 key ((findCut_keys E hs a _).1 hx) key hk rfl
theorem Sub.cond1 {cd : Operand} {a b : Code} {K : Ex → St → Option R} (h : Sub E c0 K0 (.cond cd a b) K) : Sub E c0 K0 a K := by
  have hl := h.dl
  have hc := h.dc
  simp only [loopKeys] at hl
  simp only [cutKeys] at hc
  refine ⟨fun key hk => ?_, fun key hk => ?_, (List.nodup_append.1 hl).1, (List.nodup_append.1 hc).1⟩
  · rw [h.lp key (by simp only [loopKeys, List.mem_append]; exact .inl hk), findLoop]
    exact or_left ((findLoop_keys E key a _).2 hk)
  · rw [h.ct key (by simp only [cutKeys, List.mem_append]; exact .inl hk), findCut]
    exact or_left ((findCut_keys E (cutKeys_some E hk) a _).2 hk)
theorem Sub.cond2 {cd : Operand} {a b : Code} {K : Ex → St → Option R} (h : Sub E c0 K0 (.cond cd a b) K) : Sub E c0 K0 b K := by
  have hl := h.dl
  have hc := h.dc
  simp only [loopKeys] at hl
  simp only [cutKeys] at hc
  refine ⟨fun key hk => ?_, fun key hk => ?_, (List.nodup_append.1 hl).2.1, (List.nodup_append.1 hc).2.1⟩
  · rw [h.lp key (by simp only [loopKeys, List.mem_append]; exact .inr hk), findLoop]
    refine or_right fun hx => ?_
    exact (List.nodup_append.1 hl).2.2 key ((findLoop_keys E key a _).1 hx) key hk rfl
  · rw [h.ct key (by simp only [cutKeys, List.mem_append]; exact .inr hk), findCut]
    refine or_right fun hx => ?_
    exact (List.nodup_append.1 hc).2.2 key ((findCut_keys E (cutKeys_some E hk) a _).1 hx) key hk rfl
theorem Sub.block {id : Nat} {c : Code} {K : Ex → St → Option R} (h : Sub E c0 K0 (.block id c) K) : Sub E c0 K0 c (blockK id K) :=
  ⟨fun key hk => h.lp key hk, fun key hk => h.ct key hk, h.dl, h.dc⟩
theorem Sub.scope {c : Code} {K : Ex → St → Option R} (h : Sub E c0 K0 (.scope c) K) : Sub E c0 K0 c K :=
  ⟨fun key hk => h.lp key hk, fun key hk => h.ct key hk, h.dl, h.dc⟩
theorem Sub.loop {c : Code} {K : Ex → St → Option R} (h : Sub E c0 K0 (.loop c) K) : Sub E c0 K0 c (loopK E c K) := by
  have hl := h.dl
  simp only [loopKeys, List.nodup_cons] at hl
  refine ⟨fun key hk => ?_, fun key hk => h.ct key hk, hl.2, h.dc⟩
  rw [h.lp key (by simp only [loopKeys, List.mem_cons]; exact .inr hk), findLoop]
  cases hb : Nat.beq (keyOf c) key with
  | true => have := Nat.eq_of_beq_eq_true hb; subst this; exact (hl.1 hk).elim
  | false => rfl

/-- The loops and the cuts of a text, by name. -/
noncomputable def lpOf (E : Env) (c0 : Code) (K0 : Ex → St → Option R) (key : Nat) (l : List KV) : Option R :=
  match findLoop E key c0 K0 with
  | some (b, K) => fix (roundOf (evalCode E) E.n0 (E.keep key) b K) l
  | none => none
noncomputable def ctOf (E : Env) (c0 : Code) (K0 : Ex → St → Option R) (key : Nat) (l : List KV) : Option R :=
  match findCut E key c0 K0, E.cut key with
  | some (b, K), some keep => cutHere key l fun l => evalCode E b (mk E.n0 keep l) K
  | _, _ => none

theorem Sub.lpSelf {c : Code} {K : Ex → St → Option R} (h : Sub E c0 K0 (.loop c) K) (l : List KV) : lpOf E c0 K0 (keyOf c) l = fix (roundOf (evalCode E) E.n0 (E.keep (keyOf c)) c K) l := by
  unfold lpOf
  rw [h.lp (keyOf c) (by simp [loopKeys]), findLoop, Nat.beq_refl]
  rfl
theorem Sub.ctSelf {a b : Code} {K : Ex → St → Option R} (h : Sub E c0 K0 (.seq a b) K) {keep : List Nat} (hk : E.cut (keyOf b) = some keep) (l : List KV) : ctOf E c0 K0 (keyOf b) l = evalCode E b (AI.mk E.n0 keep l) K := by
  unfold ctOf
  rw [h.ct (keyOf b) (by simp [cutKeys, hk]), findCut, Nat.beq_refl, hk]
  rfl

theorem evalJ_eq (hr : ∀ k, E.roll k = none) : ∀ (c : Code) (K : Ex → St → Option R), Sub E c0 K0 c K → ∀ st, evalJ E (ctOf E c0 K0) (lpOf E c0 K0) c st K = evalCode E c st K := by
  intro c
  induction c with
  | seq a b iha ihb =>
    intro K h st
    simp only [evalJ]
    have e : (fun (ex : Ex) (st' : St) => match ex with
      | .normal => match E.cut (keyOf b) with
        | some keep => ctOf E c0 K0 (keyOf b) (canon E.n0 keep st')
        | none => evalJ E (ctOf E c0 K0) (lpOf E c0 K0) b st' K
      | .exit i => K (.exit i) st'
      | .ret => K .ret st') = seqK E b K := by
      funext ex st'
      unfold seqK
      cases ex with
      | normal =>
        cases hk : E.cut (keyOf b) with
        | some keep => simp only []; rw [h.ctSelf hk]; rfl
        | none => simp only []; exact ihb K h.seq2 st'
      | exit i => rfl
      | ret => rfl
    rw [e, iha _ h.seq1 st]
    rfl
  | cond cd a b iha ihb =>
    intro K h st
    simp only [evalJ, evalCode]
    have ha := iha K h.cond1
    have hb := ihb K h.cond2
    simp only [ha, hb]
    rfl
  | block id c ih =>
    intro K h st
    exact ih _ h.block st
  | loop c ih =>
    intro K h st
    simp only [evalJ, evalCode, hr]
    rw [h.lpSelf]
  | region id ops draw => intro K h st; rfl
  | skip => intro K h st; rfl
  | label l => intro K h st; rfl
  | exit i => intro K h st; rfl
  | ret => intro K h st; rfl
  | rangeFunc f ps x y _ _ => intro K h st; rfl
  | scope c ih => intro K h st; exact ih _ h.scope st
  | goto l => intro K h st; rfl
  | refuse why => intro K h st; rfl

theorem seqKJ_eq (hr : ∀ k, E.roll k = none) {a b : Code} {K : Ex → St → Option R} (h : Sub E c0 K0 (.seq a b) K) : seqKJ E (ctOf E c0 K0) (lpOf E c0 K0) b K = seqK E b K := by
  funext ex st'
  unfold seqKJ seqK
  cases ex with
  | normal =>
    cases hk : E.cut (keyOf b) with
    | some keep => simp only []; rw [h.ctSelf hk]; rfl
    | none => simp only []; exact evalJ_eq hr b K h.seq2 st'
  | exit i => rfl
  | ret => rfl
theorem loopKJ_eq {c : Code} {K : Ex → St → Option R} (h : Sub E c0 K0 (.loop c) K) : loopKJ E (lpOf E c0 K0) c K = loopK E c K := by
  funext ex st'
  unfold loopKJ loopK
  cases ex with
  | normal => exact h.lpSelf _
  | exit i => rfl
  | ret => rfl

theorem findLoopJ_eq (hr : ∀ k, E.roll k = none) (key : Nat) : ∀ (c : Code) (K : Ex → St → Option R), Sub E c0 K0 c K → findLoopJ E (ctOf E c0 K0) (lpOf E c0 K0) key c K = findLoop E key c K := by
  intro c
  induction c with
  | seq a b iha ihb =>
    intro K h
    rw [findLoopJ, findLoop, seqKJ_eq hr h, iha _ h.seq1, ihb _ h.seq2]
  | cond cd a b iha ihb =>
    intro K h
    rw [findLoopJ, findLoop, iha _ h.cond1, ihb _ h.cond2]
  | block id c ih => intro K h; rw [findLoopJ, findLoop, ih _ h.block]
  | scope c ih => intro K h; rw [findLoopJ, findLoop, ih _ h.scope]
  | loop c ih => intro K h; rw [findLoopJ, findLoop, loopKJ_eq h, ih _ h.loop]
  | _ => intro K h; rfl
theorem findCutJ_eq (hr : ∀ k, E.roll k = none) (key : Nat) : ∀ (c : Code) (K : Ex → St → Option R), Sub E c0 K0 c K → findCutJ E (ctOf E c0 K0) (lpOf E c0 K0) key c K = findCut E key c K := by
  intro c
  induction c with
  | seq a b iha ihb =>
    intro K h
    rw [findCutJ, findCut, seqKJ_eq hr h, iha _ h.seq1, ihb _ h.seq2]
  | cond cd a b iha ihb =>
    intro K h
    rw [findCutJ, findCut, iha _ h.cond1, ihb _ h.cond2]
  | block id c ih => intro K h; rw [findCutJ, findCut, ih _ h.block]
  | scope c ih => intro K h; rw [findCutJ, findCut, ih _ h.scope]
  | loop c ih => intro K h; rw [findCutJ, findCut, loopKJ_eq h, ih _ h.loop]
  | _ => intro K h; rfl

/-- Wherever a loop is found, its text lies so. -/
theorem Sub.atLoop : ∀ (c : Code) (K : Ex → St → Option R), Sub E c0 K0 c K → ∀ {key : Nat} {b : Code} {K' : Ex → St → Option R}, findLoop E key c K = some (b, K') → key = keyOf b ∧ Sub E c0 K0 (.loop b) K' := by
  intro c
  induction c with
  | seq a b iha ihb =>
    intro K h key b' K' hf
    rw [findLoop] at hf
    rcases Option.or_eq_some_iff.1 hf with hf | ⟨_, hf⟩
    · exact iha _ h.seq1 hf
    · exact ihb _ h.seq2 hf
  | cond cd a b iha ihb =>
    intro K h key b' K' hf
    rw [findLoop] at hf
    rcases Option.or_eq_some_iff.1 hf with hf | ⟨_, hf⟩
    · exact iha _ h.cond1 hf
    · exact ihb _ h.cond2 hf
  | block id c ih => intro K h key b' K' hf; exact ih _ h.block hf
  | scope c ih => intro K h key b' K' hf; exact ih _ h.scope hf
  | loop c ih =>
    intro K h key b' K' hf
    rw [findLoop] at hf
    cases hb : Nat.beq (keyOf c) key with
    | true =>
      rw [hb] at hf
      cases hf
      exact ⟨(Nat.eq_of_beq_eq_true hb).symm, h⟩
    | false => rw [hb] at hf; exact ih _ h.loop hf
  | _ => intro K h key b' K' hf; simp [findLoop] at hf
theorem Sub.atCut : ∀ (c : Code) (K : Ex → St → Option R), Sub E c0 K0 c K → ∀ {key : Nat} {b : Code} {K' : Ex → St → Option R}, findCut E key c K = some (b, K') → Sub E c0 K0 b K' := by
  intro c
  induction c with
  | seq a b iha ihb =>
    intro K h key b' K' hf
    rw [findCut] at hf
    cases hb : Nat.beq (keyOf b) key with
    | true => rw [hb] at hf; cases hf; exact h.seq2
    | false =>
      rw [hb] at hf
      rcases Option.or_eq_some_iff.1 hf with hf | ⟨_, hf⟩
      · exact iha _ h.seq1 hf
      · exact ihb _ h.seq2 hf
  | cond cd a b iha ihb =>
    intro K h key b' K' hf
    rw [findCut] at hf
    rcases Option.or_eq_some_iff.1 hf with hf | ⟨_, hf⟩
    · exact iha _ h.cond1 hf
    · exact ihb _ h.cond2 hf
  | block id c ih => intro K h key b' K' hf; exact ih _ h.block hf
  | scope c ih => intro K h key b' K' hf; exact ih _ h.scope hf
  | loop c ih => intro K h key b' K' hf; exact ih _ h.loop hf
  | _ => intro K h key b' K' hf; simp [findCut] at hf
end

/-- What is asked of a text's names, to be computed. -/
def namesOk (E : Env) (c : Code) : Bool := nodup (loopKeys c) && nodup (cutKeys E c)

theorem sub_self {E : Env} {c : Code} {K : Ex → St → Option (List D)} (h : namesOk E c = true) : Sub E c K c K := by
  unfold namesOk at h
  rw [Bool.and_eq_true, nodup_iff, nodup_iff] at h
  exact ⟨fun _ _ => rfl, fun _ _ => rfl, h.1, h.2⟩

section
variable (E : Env) (fn : Func) (c : Code)
noncomputable def startJ (J L : Nat → List KV → Option (List D)) (ds : List D) : Option (List D) :=
  evalJ E J L c ⟨argFr ds, argHp 0 ds, E.n0⟩ (endK E fn)
noncomputable def roundJ (J L : Nat → List KV → Option (List D)) (key : Nat) (l : List KV) : Option (List D) :=
  match findLoopJ E J L key c (endK E fn) with
  | some (b, K) => evalJ E J L b (mk E.n0 (E.keep key) l) fun ex st' => match ex with
    | .normal => L key (canon E.n0 (E.keep key) st')
    | .exit i => K (.exit i) st'
    | .ret => K .ret st'
  | none => none
noncomputable def cutJ (J L : Nat → List KV → Option (List D)) (key : Nat) (l : List KV) : Option (List D) :=
  match findCutJ E J L key c (endK E fn), E.cut key with
  | some (b, K), some keep => evalJ E J L b (mk E.n0 keep l) K
  | _, _ => none
end

variable {E : Env} {fn : Func} {c : Code}
theorem cutAt_ct : cutAt E fn c = ctOf E c (endK E fn) := by
  funext key l
  unfold cutAt ctOf
  cases findCut E key c (endK E fn) <;> cases E.cut key <;> rfl
theorem loopAt_lp : loopAt E fn c = lpOf E c (endK E fn) := by
  funext key l
  unfold loopAt lpOf
  cases findLoop E key c (endK E fn) <;> rfl
/- Behind these names the kernel never looks. -/
theorem ctO_ex (E : Env) (fn : Func) (c : Code) : ∃ f : Nat → List KV → Option (List D), f = cutAt E fn c := ⟨_, rfl⟩
noncomputable def ctO (E : Env) (fn : Func) (c : Code) : Nat → List KV → Option (List D) := Classical.choose (ctO_ex E fn c)
theorem ctO_eq : ctO E fn c = cutAt E fn c := Classical.choose_spec (ctO_ex E fn c)
theorem lpO_ex (E : Env) (fn : Func) (c : Code) : ∃ f : Nat → List KV → Option (List D), f = loopAt E fn c := ⟨_, rfl⟩
noncomputable def lpO (E : Env) (fn : Func) (c : Code) : Nat → List KV → Option (List D) := Classical.choose (lpO_ex E fn c)
theorem lpO_eq : lpO E fn c = loopAt E fn c := Classical.choose_spec (lpO_ex E fn c)

theorem evalFn_J (hr : E.roll = fun _ => none) (h : namesOk E c = true) (ds : List D) : evalFn E fn c ds = startJ E fn c (ctO E fn c) (lpO E fn c) ds := by
  rw [ctO_eq, lpO_eq, cutAt_ct, loopAt_lp]
  exact (evalJ_eq (c0 := c) (K0 := endK E fn) (fun k => by rw [hr]) c (endK E fn) (sub_self h) _).symm
theorem loopAt_J (hr : E.roll = fun _ => none) (h : namesOk E c = true) (key : Nat) (l : List KV) : lpO E fn c key l = roundJ E fn c (ctO E fn c) (lpO E fn c) key l := by
  rw [ctO_eq, lpO_eq, loopAt_eq, cutAt_ct, loopAt_lp]
  unfold roundAt roundJ
  have hs := sub_self (K := endK E fn) h
  have e := findLoopJ_eq (c0 := c) (K0 := endK E fn) (fun k => by rw [hr]) key c (endK E fn) hs
  rw [e]
  cases hf : findLoop E key c (endK E fn) with
  | none => rfl
  | some p =>
    obtain ⟨b, K⟩ := p
    simp only []
    obtain ⟨rfl, hb⟩ := Sub.atLoop c (endK E fn) hs hf
    have e2 : (fun (ex : Ex) (st' : St) => match ex with
      | .normal => lpOf E c (endK E fn) (keyOf b) (canon E.n0 (E.keep (keyOf b)) st')
      | .exit i => K (.exit i) st'
      | .ret => K .ret st') = loopK E b K := loopKJ_eq hb
    rw [e2]
    exact (evalJ_eq (c0 := c) (K0 := endK E fn) (fun k => by rw [hr]) b _ hb.loop _).symm
theorem cutAt_J (hr : E.roll = fun _ => none) (h : namesOk E c = true) (key : Nat) (l : List KV) : ctO E fn c key l = cutJ E fn c (ctO E fn c) (lpO E fn c) key l := by
  rw [ctO_eq, lpO_eq, cutAt_eq, cutAt_ct, loopAt_lp]
  unfold cutOpen cutJ
  have hs := sub_self (K := endK E fn) h
  have e := findCutJ_eq (c0 := c) (K0 := endK E fn) (fun k => by rw [hr]) key c (endK E fn) hs
  rw [e]
  cases hf : findCut E key c (endK E fn) with
  | none => rfl
  | some p =>
    obtain ⟨b, K⟩ := p
    cases hc : E.cut key with
    | none => rfl
    | some keep => exact (evalJ_eq (c0 := c) (K0 := endK E fn) (fun k => by rw [hr]) b _ (Sub.atCut c _ hs hf) _).symm

end Go.Proofs.YtknafopmgaolmaaGreatDoor.AI

/- Contracts by parameters. -/
namespace Go.Proofs.YtknafopmgaolmaaGreatDoor.AI
open Go Go.RowKit

/-- How an argument is read, and what it is then taken for. -/
structure Par (α : Type) where
  put : α → D
  get : D → Option α
  le : ∀ {d x}, get d = some x → DLe d (put x)

def pI (k : IntKind) : Par (List Int) := ⟨fun a => .s (.ints k a), dI k, dI_le⟩
def pN (k : IntKind) : Par Int := ⟨fun n => .s (.sc (.int k n)), dN k, dN_le⟩
/-- A slice that is handed over to be written into: what its block holds, where it begins, how long it is. -/
def dIO (e : TypeId) (k : IntKind) : D → Option (List Int × Nat × Nat)
  | .io e' k' ns off n => if _h : e = e' ∧ k = k' then some (ns, off, n) else none
  | _ => none
theorem dIO_eq {e : TypeId} {k : IntKind} {d : D} {x : List Int × Nat × Nat} (h : dIO e k d = some x) : d = .io e k x.1 x.2.1 x.2.2 := by
  unfold dIO at h
  split at h
  · split at h
    · rename_i hk; obtain ⟨rfl, rfl⟩ := hk; cases h; rfl
    · cases h
  · cases h
def pIO (e : TypeId) (k : IntKind) : Par (List Int × Nat × Nat) := ⟨fun x => .io e k x.1 x.2.1 x.2.2, dIO e k, fun h => by rw [dIO_eq h]; exact DLe.refl _⟩
def pB : Par Bool := ⟨fun b => .s (.sc (.bool b)), dB, dB_le⟩
def dF (k : FloatKind) : D → Option Nat
  | .s (.sc (.float k' b)) => if _h : k = k' then some b else none
  | _ => none
theorem dF_le {k : FloatKind} {d : D} {n : Nat} (h : dF k d = some n) : DLe d (.s (.sc (.float k n))) := by
  unfold dF at h
  split at h
  · split at h
    · rename_i hk; cases h; subst hk; exact DLe.refl _
    · cases h
  · cases h
def pF (k : FloatKind) : Par Nat := ⟨fun b => .s (.sc (.float k b)), dF k, dF_le⟩
/-- Anything at all. -/
def pD : Par D := ⟨fun d => d, some, fun h => by cases h; exact DLe.refl _⟩

/-- What is read of an argument that is no slice handed over. -/
class ParN {α : Type} (p : Par α) : Prop where
  no : ∀ {d x}, p.get d = some x → isIo d = false ∧ isIo (p.put x) = false
instance {k : IntKind} : ParN (pI k) := ⟨fun {d x} h => ⟨by cases d <;> first | rfl | (simp [pI, dI] at h), rfl⟩⟩
instance {k : IntKind} : ParN (pN k) := ⟨fun {d x} h => ⟨by cases d <;> first | rfl | (simp [pN, dN] at h), rfl⟩⟩
instance : ParN pB := ⟨fun {d x} h => ⟨by cases d <;> first | rfl | (simp [pB, dB] at h), rfl⟩⟩

/-- The cells of a struct. -/
structure SPar (α : Type) where
  n : Nat
  put : α → List S
  get : List S → Option α
  le : ∀ {d x}, get d = some x → d.length = n ∧ (put x).length = n ∧ ∀ (i : Nat) (s s' : S), d[i]? = some s → (put x)[i]? = some s' → ∀ X w v, RepS X w s v → RepS X w s' v
def sOf {α : Type} (p : Par α) (put : α → S) (h : ∀ x, p.put x = .s (put x)) : SPar α where
  n := 1
  put x := [put x]
  get
    | [s] => p.get (.s s)
    | _ => none
  le := by
    intro d x hd
    match d, hd with
    | [s], hd =>
      refine ⟨rfl, rfl, fun i s1 s2 h1 h2 => ?_⟩
      match i with
      | 0 =>
        simp at h1 h2
        subst h1; subst h2
        intro X w v hr
        have := p.le hd X w v hr
        rw [h] at this
        exact this
      | i + 1 => simp at h1
def sI (k : IntKind) : SPar (List Int) := sOf (pI k) (fun a => .ints k a) fun _ => rfl
def sN (k : IntKind) : SPar Int := sOf (pN k) (fun n => .sc (.int k n)) fun _ => rfl
def sB : SPar Bool := sOf pB (fun b => .sc (.bool b)) fun _ => rfl
def sF (k : FloatKind) : SPar Nat := sOf (pF k) (fun b => .sc (.float k b)) fun _ => rfl
def SPar.pair {α β : Type} (p : SPar α) (q : SPar β) : SPar (α × β) where
  n := p.n + q.n
  put x := p.put x.1 ++ q.put x.2
  get d := match p.get (d.take p.n), q.get (d.drop p.n) with
    | some a, some b => some (a, b)
    | _, _ => none
  le := by
    intro d x h
    split at h
    · rename_i a b ha hb
      cases h
      obtain ⟨a1, a2, a3⟩ := p.le ha
      obtain ⟨b1, b2, b3⟩ := q.le hb
      simp only [List.length_take, List.length_drop] at a1 b1
      have a2' : (p.put (a, b).fst).length = p.n := a2
      refine ⟨by omega, by simp [a2, b2], fun i s s' h1 h2 => ?_⟩
      by_cases hi : i < p.n
      · rw [List.getElem?_append_left (by rw [a2']; exact hi)] at h2
        exact a3 i s s' (by rw [List.getElem?_take_of_lt hi]; exact h1) h2
      · rw [List.getElem?_append_right (by rw [a2']; omega), a2'] at h2
        exact b3 (i - p.n) s s' (by rw [List.getElem?_drop, show p.n + (i - p.n) = i from by omega]; exact h1) h2
    · cases h
def pG {α : Type} (p : SPar α) : Par α where
  put x := .agg (p.put x)
  get
    | .agg cs => p.get cs
    | _ => none
  le := by
    intro d x h
    match d, h with
    | .agg cs, h =>
      obtain ⟨h1, h2, h3⟩ := p.le h
      rintro Y w v ⟨arr, rfl, hl, hr⟩
      refine ⟨arr, rfl, by omega, fun i s u hs hu => ?_⟩
      obtain ⟨s0, hs0⟩ := getElem?_of_lt (l := cs) (i := i) (by have := getElem?_lt hs; omega)
      exact h3 i s0 s hs0 hs Y w u (hr i s0 u hs0 hu)

/-- A result, told with less. -/
def RLe (d d' : D) : Prop := (d' = d) ∨ (isOwn d' = false ∧ ((∃ e k ns, d = .own e k ns ∧ d' = .s (.ints k ns)) ∨ (isOwn d = false ∧ DLe d d')))
theorem RLe.refl (d : D) : RLe d d := .inl rfl
theorem RLe.own (e : TypeId) (k : IntKind) (ns : List Int) : RLe (.own e k ns) (.s (.ints k ns)) := .inr ⟨rfl, .inl ⟨e, k, ns, rfl, rfl⟩⟩
theorem RLe.nil (k : IntKind) : RLe (.s (.sc (.slice none 0 0))) (.s (.ints k [])) :=
  .inr ⟨rfl, .inr ⟨rfl, fun Y w v h => by obtain ⟨rfl, _⟩ := h; exact ⟨none, 0, rfl, Nat.le_refl _, fun i n hn => by simp at hn⟩⟩⟩
/-- Cells, told with less. -/
def SLe (s s' : S) : Prop := ∀ X w v, RepS X w s v → RepS X w s' v
theorem SLe.refl (s : S) : SLe s s := fun _ _ _ h => h
theorem SLe.nil (k : IntKind) : SLe (.sc (.slice none 0 0)) (.ints k []) := fun X w v h => by
  obtain ⟨rfl, _⟩ := h
  exact ⟨none, 0, rfl, Nat.le_refl _, fun i n hn => by simp at hn⟩
inductive CsLe : List S → List S → Prop where
  | nil : CsLe [] []
  | cons {s s' : S} {l l' : List S} : SLe s s' → CsLe l l' → CsLe (s :: l) (s' :: l')
theorem CsLe.refl : ∀ l, CsLe l l
  | [] => .nil
  | s :: l => .cons (SLe.refl s) (CsLe.refl l)
theorem CsLe.len {l l' : List S} (h : CsLe l l') : l.length = l'.length := by induction h with | nil => rfl | cons _ _ ih => simp [ih]
theorem CsLe.at {l l' : List S} (h : CsLe l l') : ∀ {i : Nat} {s s' : S}, l[i]? = some s → l'[i]? = some s' → SLe s s' := by
  induction h with
  | nil => intro i s s' h; simp at h
  | cons hs _ ih =>
    intro i s s' h1 h2
    cases i with
    | zero => simp at h1 h2; subst h1; subst h2; exact hs
    | succ i => simp at h1 h2; exact ih h1 h2
theorem RLe.agg {l l' : List S} (h : CsLe l l') : RLe (.agg l) (.agg l') :=
  .inr ⟨rfl, .inr ⟨rfl, fun Y w v hv => by
    obtain ⟨arr, rfl, hl, hr⟩ := hv
    refine ⟨arr, rfl, by rw [← h.len]; exact hl, fun i s u hs hu => ?_⟩
    obtain ⟨s0, hs0⟩ := getElem?_of_lt (l := l) (i := i) (by have := getElem?_lt hs; rw [h.len]; exact this)
    exact h.at hs0 hs Y w u (hr i s0 u hs0 hu)⟩⟩
/-- Of each result. -/
inductive RsLe : List D → List D → Prop where
  | nil : RsLe [] []
  | cons {s s' : D} {l l' : List D} : RLe s s' → RsLe l l' → RsLe (s :: l) (s' :: l')
theorem RsLe.refl : ∀ l, RsLe l l
  | [] => .nil
  | s :: l => .cons (RLe.refl s) (RsLe.refl l)
theorem RsLe.len {l l' : List D} (h : RsLe l l') : l.length = l'.length := by induction h with | nil => rfl | cons _ _ ih => simp [ih]
theorem RsLe.at {l l' : List D} (h : RsLe l l') : ∀ {i : Nat} {s s' : D}, l[i]? = some s → l'[i]? = some s' → RLe s s' := by
  induction h with
  | nil => intro i s s' h; simp at h
  | cons hs _ ih =>
    intro i s s' h1 h2
    cases i with
    | zero => simp at h1 h2; subst h1; subst h2; exact hs
    | succ i => simp at h1 h2; exact ih h1 h2
theorem Contract.less {P : Program} {G : Nat → Option (IntKind × List Int)} {f : FuncId} {ds rs rs' : List D} (h : Contract P G f ds rs) (hr : RsLe rs rs') : Contract P G f ds rs' := by
  intro Y w vs hY hG hlen hargs
  refine (h Y w vs hY hG hlen hargs).mono ?_
  rintro e w' ⟨vs', he, hb, g, hl, hinj, hres⟩
  have hown : ∀ {i : Nat} {d d' : D}, rs[i]? = some d → rs'[i]? = some d' → isOwn d' = true → d' = d := by
    intro i d d' h1 h2 ho
    rcases hr.at h1 h2 with h3 | ⟨h3, _⟩
    · exact h3
    · rw [h3] at ho; cases ho
  have hget : ∀ {i : Nat} {d' : D}, rs'[i]? = some d' → ∃ d, rs[i]? = some d := fun {i d'} h => getElem?_of_lt (l := rs) (i := i) (by have := getElem?_lt h; rw [hr.len]; exact this)
  have hsub : ∀ b, (Y b ∨ ∃ (j : Nat) (d' : D), rs'[j]? = some d' ∧ isOwn d' = true ∧ g j = b) → (Y b ∨ ∃ (j : Nat) (d' : D), rs[j]? = some d' ∧ isOwn d' = true ∧ g j = b) := by
    rintro b (hb | ⟨j, d', h1, h2, h3⟩)
    · exact .inl hb
    · obtain ⟨d, hd⟩ := hget h1
      have := hown hd h1 h2
      subst this
      exact .inr ⟨j, d', hd, h2, h3⟩
  refine ⟨vs', he, hb, g, by rw [← hr.len]; exact hl, ?_, ?_⟩
  · intro i j d d' h1 h2 h3 h4 h5
    obtain ⟨e1, he1⟩ := hget h1
    obtain ⟨e2, he2⟩ := hget h2
    have q1 := hown he1 h1 h3
    have q2 := hown he2 h2 h4
    subst q1; subst q2
    exact hinj i j _ _ he1 he2 h3 h4 h5
  · intro i d' v h1 hv
    obtain ⟨d, hd⟩ := hget h1
    have hdv := hres i d v hd hv
    have hlater : ∀ (X : Nat → Prop), (∀ b, X b → (Y b ∨ ∃ (j : Nat) (d' : D), rs[j]? = some d' ∧ isOwn d' = true ∧ g j = b)) → Later (fun b => Y b ∨ ∃ (j : Nat) (d' : D), rs[j]? = some d' ∧ isOwn d' = true ∧ g j = b) w' X w' :=
      fun X hX => ⟨Nat.le_refl _, fun b _ hn => ⟨rfl, fun hx => hn (hX b hx)⟩⟩
    have hre : ∀ {x : D}, isOwn x = false → RepD (fun b => Y b ∨ ∃ (j : Nat) (d' : D), rs[j]? = some d' ∧ isOwn d' = true ∧ g j = b) w' x v → RepD (fun b => Y b ∨ ∃ (j : Nat) (d' : D), rs'[j]? = some d' ∧ isOwn d' = true ∧ g j = b) w' x v :=
      fun _ hx => hx.later (hlater _ hsub)
    have hnon : ∀ {x : D}, isOwn x = false → (match x with
      | .own e k ns => OwnAt w.heap.size w' (g i) e k ns v
      | d => RepD (fun b => Y b ∨ ∃ (j : Nat) (d' : D), rs[j]? = some d' ∧ isOwn d' = true ∧ g j = b) w' d v) → RepD (fun b => Y b ∨ ∃ (j : Nat) (d' : D), rs[j]? = some d' ∧ isOwn d' = true ∧ g j = b) w' x v := by
      intro x hx hm
      cases x with
      | own e k ns => cases hx
      | s x => exact hm
      | rows a b c => exact hm
      | agg cs => exact hm
      | io => exact hm
      | back => exact hm
    have hback : ∀ {x : D}, isOwn x = false → RepD (fun b => Y b ∨ ∃ (j : Nat) (d' : D), rs'[j]? = some d' ∧ isOwn d' = true ∧ g j = b) w' x v → (match x with
      | .own e k ns => OwnAt w.heap.size w' (g i) e k ns v
      | d => RepD (fun b => Y b ∨ ∃ (j : Nat) (d' : D), rs'[j]? = some d' ∧ isOwn d' = true ∧ g j = b) w' d v) := by
      intro x hx hm
      cases x with
      | own e k ns => cases hx
      | s x => exact hm
      | rows a b c => exact hm
      | agg cs => exact hm
      | io => exact hm
      | back => exact hm
    rcases hr.at hd h1 with rfl | ⟨h3, ⟨e0, k, ns, rfl, rfl⟩ | ⟨h4, h5⟩⟩
    · cases hod : isOwn d' with
      | true =>
        cases d' with
        | own e k ns => exact hdv
        | s x => cases hod
        | io => cases hod
        | back => cases hod
        | rows a b c => cases hod
        | agg cs => cases hod
      | false => exact hback hod (hre hod (hnon hod hdv))
    · obtain ⟨arr, cap, hv2, hbg, hh, hn1, hn1b, hn2, hcs⟩ := hdv
      refine ⟨_, _, hv2, hn1, fun j n hj => ⟨g i, 0, rfl, ?_, ?_, ?_⟩⟩
      · exact (Array.getElem?_eq_some_iff.1 hh).1
      · rintro (hy | ⟨j', d', q1, q2, q3⟩)
        · have := hY _ hy; omega
        · obtain ⟨d2, hd2⟩ := hget q1
          have := hown hd2 q1 q2
          subst this
          have := hinj j' i _ _ hd2 hd q2 rfl q3
          subst this
          rw [h1] at q1
          cases q1
          cases q2
      · rw [cell_of_row w' (g i) _ arr e0 (0, 0) hh]
        simpa using hcs j n hj
    · exact hback h3 (h5 _ _ _ (hre h4 (hnon h4 hdv)))

def orc0 (r : Prop × List D) : Orc
  | [] => some r
  | _ => none
def orc1 {α : Type} (p : Par α) (f : α → Prop × List D) : Orc
  | [a] => match p.get a with
    | some x => some (f x)
    | none => none
  | _ => none
def orc2 {α β : Type} (p : Par α) (q : Par β) (f : α → β → Prop × List D) : Orc
  | [a, b] => match p.get a, q.get b with
    | some x, some y => some (f x y)
    | _, _ => none
  | _ => none
def orc3 {α β γ : Type} (p : Par α) (q : Par β) (r : Par γ) (f : α → β → γ → Prop × List D) : Orc
  | [a, b, c] => match p.get a, q.get b, r.get c with
    | some x, some y, some z => some (f x y z)
    | _, _, _ => none
  | _ => none
def orc4 {α β γ δ : Type} (p : Par α) (q : Par β) (r : Par γ) (s : Par δ) (f : α → β → γ → δ → Prop × List D) : Orc
  | [a, b, c, d] => match p.get a, q.get b, r.get c, s.get d with
    | some x, some y, some z, some u => some (f x y z u)
    | _, _, _, _ => none
  | _ => none

/-- What stands about a function, apart from its specification. -/
structure FnOk (P : Program) (E : Env) (f : FuncId) (fn : Func) (c : Code) : Prop where
  ty : TyOk P E.T
  calls : CallsOk P E
  mix : P.follows .mixedOrders = true
  fnc : P.funcs[f]? = some fn
  body : fn.body = some c
  nt : E.nt = fn.ntmps
  has : HasBody P f
  io : E.io = []
theorem fnOk {P : Program} {E : Env} {f : FuncId} {fn : Func} {c : Code} (ty : TyOk P E.T) (mix : P.follows .mixedOrders = true) (calls : CallsOk P E) (hf : P.funcs[f]? = some fn) (hb : fn.body = some c) (nt : E.nt = fn.ntmps) (hn : (fn.name == "runtime.NumGoroutine") = false) (io : E.io = [] := by rfl) : FnOk P E f fn c :=
  ⟨ty, calls, mix, hf, hb, nt, hasBody_of hf hb hn, io⟩
/-- The same of a function that writes into the first slice that is handed over. -/
structure FnOkIO (P : Program) (E : Env) (f : FuncId) (fn : Func) (c : Code) : Prop where
  ty : TyOk P E.T
  calls : CallsOk P E
  mix : P.follows .mixedOrders = true
  fnc : P.funcs[f]? = some fn
  body : fn.body = some c
  nt : E.nt = fn.ntmps
  has : HasBody P f
  io : E.io = [0]
  n0 : E.n0 = 1
theorem fnOkIO {P : Program} {E : Env} {f : FuncId} {fn : Func} {c : Code} (ty : TyOk P E.T) (mix : P.follows .mixedOrders = true) (calls : CallsOk P E) (hf : P.funcs[f]? = some fn) (hb : fn.body = some c) (nt : E.nt = fn.ntmps) (hn : (fn.name == "runtime.NumGoroutine") = false) (io : E.io = [0]) (n0 : E.n0 = 1) : FnOkIO P E f fn c :=
  ⟨ty, calls, mix, hf, hb, nt, hasBody_of hf hb hn, io, n0⟩

variable {P : Program} {E : Env} {f : FuncId} {fn : Func} {c : Code}
theorem FnOk.ok0 (h : FnOk P E f fn c) {r : Prop × List D} (hs : r.1 → evalFn E fn c [] = some r.2) : OrcOk P E.glob f (orc0 r) := by
  intro ds g rs hd hg
  unfold orc0 at hd
  split at hd
  · cases hd
    exact ⟨fn_contract h.ty h.calls h.mix h.fnc h.body h.nt h.io (Nat.zero_le _) (hs hg), h.has⟩
  · cases hd
theorem FnOk.ok1 {α : Type} (h : FnOk P E f fn c) {p : Par α} {g : α → Prop × List D} (hn : Nat.ble 1 fn.ntmps = true) (hs : ∀ x, (g x).1 → evalFn E fn c [p.put x] = some (g x).2) : OrcOk P E.glob f (orc1 p g) := by
  intro ds q rs hd hg
  unfold orc1 at hd
  split at hd
  · split at hd
    · rename_i x hx
      have hd := Option.some.inj hd
      have e1 : q = (g x).1 := by rw [hd]
      have e2 : rs = (g x).2 := by rw [hd]
      subst e1; subst e2
      exact ⟨(fn_contract (ds := [p.put x]) h.ty h.calls h.mix h.fnc h.body h.nt h.io (Nat.le_of_ble_eq_true hn) (hs x hg)).of1 (p.le hx), h.has⟩
    · cases hd
  · cases hd
theorem FnOk.ok2 {α β : Type} (h : FnOk P E f fn c) {p : Par α} {p' : Par β} {g : α → β → Prop × List D} (hn : Nat.ble 2 fn.ntmps = true) (hs : ∀ x y, (g x y).1 → evalFn E fn c [p.put x, p'.put y] = some (g x y).2) : OrcOk P E.glob f (orc2 p p' g) := by
  intro ds q rs hd hg
  unfold orc2 at hd
  split at hd
  · split at hd
    · rename_i x y hx hy
      have hd := Option.some.inj hd
      have e1 : q = (g x y).1 := by rw [hd]
      have e2 : rs = (g x y).2 := by rw [hd]
      subst e1; subst e2
      exact ⟨(fn_contract (ds := [p.put x, p'.put y]) h.ty h.calls h.mix h.fnc h.body h.nt h.io (Nat.le_of_ble_eq_true hn) (hs x y hg)).of2 (p.le hx) (p'.le hy), h.has⟩
    · cases hd
  · cases hd
theorem FnOk.ok3 {α β γ : Type} (h : FnOk P E f fn c) {p : Par α} {p' : Par β} {p'' : Par γ} {g : α → β → γ → Prop × List D} (hn : Nat.ble 3 fn.ntmps = true) (hs : ∀ x y z, (g x y z).1 → evalFn E fn c [p.put x, p'.put y, p''.put z] = some (g x y z).2) : OrcOk P E.glob f (orc3 p p' p'' g) := by
  intro ds q rs hd hg
  unfold orc3 at hd
  split at hd
  · split at hd
    · rename_i x y z hx hy hz
      have hd := Option.some.inj hd
      have e1 : q = (g x y z).1 := by rw [hd]
      have e2 : rs = (g x y z).2 := by rw [hd]
      subst e1; subst e2
      exact ⟨(fn_contract (ds := [p.put x, p'.put y, p''.put z]) h.ty h.calls h.mix h.fnc h.body h.nt h.io (Nat.le_of_ble_eq_true hn) (hs x y z hg)).of3 (p.le hx) (p'.le hy) (p''.le hz), h.has⟩
    · cases hd
  · cases hd
theorem FnOk.ok4 {α β γ δ : Type} (h : FnOk P E f fn c) {p : Par α} {p' : Par β} {p'' : Par γ} {p3 : Par δ} {g : α → β → γ → δ → Prop × List D} (hn : Nat.ble 4 fn.ntmps = true) (hs : ∀ x y z u, (g x y z u).1 → evalFn E fn c [p.put x, p'.put y, p''.put z, p3.put u] = some (g x y z u).2) : OrcOk P E.glob f (orc4 p p' p'' p3 g) := by
  intro ds q rs hd hg
  unfold orc4 at hd
  split at hd
  · split at hd
    · rename_i x y z u hx hy hz hu
      have hd := Option.some.inj hd
      have e1 : q = (g x y z u).1 := by rw [hd]
      have e2 : rs = (g x y z u).2 := by rw [hd]
      subst e1; subst e2
      exact ⟨(fn_contract (ds := [p.put x, p'.put y, p''.put z, p3.put u]) h.ty h.calls h.mix h.fnc h.body h.nt h.io (Nat.le_of_ble_eq_true hn) (hs x y z u hg)).of4 (p.le hx) (p'.le hy) (p''.le hz) (p3.le hu), h.has⟩
    · cases hd
  · cases hd


/-- Functions that write into the first slice that is handed over. -/
theorem FnOkIO.okG (h : FnOkIO P E f fn c) {e : TypeId} {k : IntKind} {x : List Int × Nat × Nat} {ds ds' rs : List D} {ns' : List Int} (hn : 1 + ds'.length ≤ fn.ntmps)
    (hs : evalFn E fn c ((pIO e k).put x :: ds') = some (rs ++ [.io e k ns' 0 0])) (hl : ns'.length = x.1.length) (hdl : ds.length = ds'.length)
    (hd : ∀ (i : Nat) (y y' : D), ds[i]? = some y → ds'[i]? = some y' → isIo y = false ∧ isIo y' = false ∧ DLe y y') : ContractIO P E.glob f [0] ((pIO e k).put x :: ds) rs [.io e k ns' 0 0] := by
  have hno : ∀ (i : Nat) (d : D), ds'[i]? = some d → isIo d = false := fun i d hi => by
    obtain ⟨y, hy⟩ := getElem?_of_lt (l := ds) (i := i) (by have := getElem?_lt hi; omega)
    exact (hd i y d hy hi).2.1
  have := fn_contractIO h.ty h.calls h.mix h.fnc h.body h.nt (fun i hi => by rw [h.io] at hi; rw [h.n0]; simp at hi; omega) (ds := (pIO e k).put x :: ds') (by simp; omega) hs (by rw [h.io]; rfl)
    (by
      rw [h.io]
      intro j i hj
      match j with
      | 0 =>
        simp at hj
        subst hj
        exact ⟨e, k, x.1, x.2.1, x.2.2, e, k, ns', rfl, rfl, hl⟩
      | j + 1 => simp at hj)
    (by
      rw [h.io]
      intro i d hi hio
      match i with
      | 0 => simp
      | i + 1 => rw [hno i d (by simpa using hi)] at hio; cases hio)
  rw [h.io] at this
  exact this.of0 hdl hd
theorem FnOkIO.ok1 (h : FnOkIO P E f fn c) {e : TypeId} {k : IntKind} {g : List Int × Nat × Nat → Prop × List D} (hn : Nat.ble 1 fn.ntmps = true) (hs : ∀ x, (g x).1 → evalFn E fn c [(pIO e k).put x] = some (g x).2 ∧ ∃ rs ns', (g x).2 = rs ++ [.io e k ns' 0 0] ∧ ns'.length = x.1.length) : OrcIO P E.glob f (orc1 (pIO e k) g) := by
  intro ds q rs hd hg
  unfold orc1 at hd
  split at hd
  · rename_i d1
    split at hd
    · rename_i x hx
      have hd := Option.some.inj hd
      have e1 : q = (g x).1 := by rw [hd]
      have e2 : rs = (g x).2 := by rw [hd]
      subst e1; subst e2
      obtain ⟨h1, rs1, ns', h2, h3⟩ := hs x hg
      rw [h2] at h1 ⊢
      refine ⟨⟨rs1, _, rfl, ?_⟩, h.has⟩
      have e3 := dIO_eq (show dIO e k d1 = some x from hx)
      rw [e3]
      exact h.okG (x := x) (ds' := []) (by have := Nat.le_of_ble_eq_true hn; simp; omega) h1 h3 rfl fun i a b ha hb => by simp at ha
    · cases hd
  · cases hd
theorem FnOkIO.ok2 {α : Type} (h : FnOkIO P E f fn c) {e : TypeId} {k : IntKind} {p : Par α} [hp : ParN p] {g : List Int × Nat × Nat → α → Prop × List D} (hn : Nat.ble 2 fn.ntmps = true) (hs : ∀ x y, (g x y).1 → evalFn E fn c [(pIO e k).put x, p.put y] = some (g x y).2 ∧ ∃ rs ns', (g x y).2 = rs ++ [.io e k ns' 0 0] ∧ ns'.length = x.1.length) : OrcIO P E.glob f (orc2 (pIO e k) p g) := by
  intro ds q rs hd hg
  unfold orc2 at hd
  split at hd
  · rename_i d1 d2
    split at hd
    · rename_i x y hx hy
      have hd := Option.some.inj hd
      have e1 : q = (g x y).1 := by rw [hd]
      have e2 : rs = (g x y).2 := by rw [hd]
      subst e1; subst e2
      obtain ⟨h1, rs1, ns', h2, h3⟩ := hs x y hg
      rw [h2] at h1 ⊢
      refine ⟨⟨rs1, _, rfl, ?_⟩, h.has⟩
      have e3 := dIO_eq (show dIO e k d1 = some x from hx)
      rw [e3]
      refine h.okG (x := x) (ds' := [p.put y]) (by have := Nat.le_of_ble_eq_true hn; simp; omega) h1 h3 rfl fun i a b ha hb => ?_
      match i with
      | 0 => simp at ha hb; subst ha; subst hb; exact ⟨(hp.no hy).1, (hp.no hy).2, p.le hy⟩
      | i + 1 => simp at ha
    · cases hd
  · cases hd
theorem FnOkIO.ok3 {α β : Type} (h : FnOkIO P E f fn c) {e : TypeId} {k : IntKind} {p : Par α} [hp : ParN p] {p' : Par β} [hp' : ParN p'] {g : List Int × Nat × Nat → α → β → Prop × List D} (hn : Nat.ble 3 fn.ntmps = true) (hs : ∀ x y z, (g x y z).1 → evalFn E fn c [(pIO e k).put x, p.put y, p'.put z] = some (g x y z).2 ∧ ∃ rs ns', (g x y z).2 = rs ++ [.io e k ns' 0 0] ∧ ns'.length = x.1.length) : OrcIO P E.glob f (orc3 (pIO e k) p p' g) := by
  intro ds q rs hd hg
  unfold orc3 at hd
  split at hd
  · rename_i d1 d2 d3
    split at hd
    · rename_i x y z hx hy hz
      have hd := Option.some.inj hd
      have e1 : q = (g x y z).1 := by rw [hd]
      have e2 : rs = (g x y z).2 := by rw [hd]
      subst e1; subst e2
      obtain ⟨h1, rs1, ns', h2, h3⟩ := hs x y z hg
      rw [h2] at h1 ⊢
      refine ⟨⟨rs1, _, rfl, ?_⟩, h.has⟩
      have e3 := dIO_eq (show dIO e k d1 = some x from hx)
      rw [e3]
      refine h.okG (x := x) (ds' := [p.put y, p'.put z]) (by have := Nat.le_of_ble_eq_true hn; simp; omega) h1 h3 rfl fun i a b ha hb => ?_
      match i with
      | 0 => simp at ha hb; subst ha; subst hb; exact ⟨(hp.no hy).1, (hp.no hy).2, p.le hy⟩
      | 1 => simp at ha hb; subst ha; subst hb; exact ⟨(hp'.no hz).1, (hp'.no hz).2, p'.le hz⟩
      | i + 2 => simp at ha
    · cases hd
  · cases hd

theorem FnOk.wk0 (h : FnOk P E f fn c) {r : Prop × List D} (hs : r.1 → ∃ rs, evalFn E fn c [] = some rs ∧ RsLe rs r.2) : OrcOk P E.glob f (orc0 r) := by
  intro ds g rs hd hg
  unfold orc0 at hd
  split at hd
  · cases hd
    obtain ⟨rs, he, hle⟩ := hs hg
    exact ⟨(fn_contract h.ty h.calls h.mix h.fnc h.body h.nt h.io (Nat.zero_le _) he).less hle, h.has⟩
  · cases hd
theorem FnOk.wk1 {α : Type} (h : FnOk P E f fn c) {p : Par α} {g : α → Prop × List D} (hn : Nat.ble 1 fn.ntmps = true) (hs : ∀ x, (g x).1 → ∃ rs, evalFn E fn c [p.put x] = some rs ∧ RsLe rs (g x).2) : OrcOk P E.glob f (orc1 p g) := by
  intro ds q rs hd hg
  unfold orc1 at hd
  split at hd
  · split at hd
    · rename_i x hx
      have hd := Option.some.inj hd
      have e1 : q = (g x).1 := by rw [hd]
      have e2 : rs = (g x).2 := by rw [hd]
      subst e1; subst e2
      obtain ⟨rs2, he, hle⟩ := hs x hg
      exact ⟨((fn_contract (ds := [p.put x]) h.ty h.calls h.mix h.fnc h.body h.nt h.io (Nat.le_of_ble_eq_true hn) he).of1 (p.le hx)).less hle, h.has⟩
    · cases hd
  · cases hd
theorem FnOk.wk2 {α β : Type} (h : FnOk P E f fn c) {p : Par α} {p' : Par β} {g : α → β → Prop × List D} (hn : Nat.ble 2 fn.ntmps = true) (hs : ∀ x y, (g x y).1 → ∃ rs, evalFn E fn c [p.put x, p'.put y] = some rs ∧ RsLe rs (g x y).2) : OrcOk P E.glob f (orc2 p p' g) := by
  intro ds q rs hd hg
  unfold orc2 at hd
  split at hd
  · split at hd
    · rename_i x y hx hy
      have hd := Option.some.inj hd
      have e1 : q = (g x y).1 := by rw [hd]
      have e2 : rs = (g x y).2 := by rw [hd]
      subst e1; subst e2
      obtain ⟨rs2, he, hle⟩ := hs x y hg
      exact ⟨((fn_contract (ds := [p.put x, p'.put y]) h.ty h.calls h.mix h.fnc h.body h.nt h.io (Nat.le_of_ble_eq_true hn) he).of2 (p.le hx) (p'.le hy)).less hle, h.has⟩
    · cases hd
  · cases hd
theorem FnOk.wk3 {α β γ : Type} (h : FnOk P E f fn c) {p : Par α} {p' : Par β} {p'' : Par γ} {g : α → β → γ → Prop × List D} (hn : Nat.ble 3 fn.ntmps = true) (hs : ∀ x y z, (g x y z).1 → ∃ rs, evalFn E fn c [p.put x, p'.put y, p''.put z] = some rs ∧ RsLe rs (g x y z).2) : OrcOk P E.glob f (orc3 p p' p'' g) := by
  intro ds q rs hd hg
  unfold orc3 at hd
  split at hd
  · split at hd
    · rename_i x y z hx hy hz
      have hd := Option.some.inj hd
      have e1 : q = (g x y z).1 := by rw [hd]
      have e2 : rs = (g x y z).2 := by rw [hd]
      subst e1; subst e2
      obtain ⟨rs2, he, hle⟩ := hs x y z hg
      exact ⟨((fn_contract (ds := [p.put x, p'.put y, p''.put z]) h.ty h.calls h.mix h.fnc h.body h.nt h.io (Nat.le_of_ble_eq_true hn) he).of3 (p.le hx) (p'.le hy) (p''.le hz)).less hle, h.has⟩
    · cases hd
  · cases hd
theorem FnOk.wk4 {α β γ δ : Type} (h : FnOk P E f fn c) {p : Par α} {p' : Par β} {p'' : Par γ} {p3 : Par δ} {g : α → β → γ → δ → Prop × List D} (hn : Nat.ble 4 fn.ntmps = true) (hs : ∀ x y z u, (g x y z u).1 → ∃ rs, evalFn E fn c [p.put x, p'.put y, p''.put z, p3.put u] = some rs ∧ RsLe rs (g x y z u).2) : OrcOk P E.glob f (orc4 p p' p'' p3 g) := by
  intro ds q rs hd hg
  unfold orc4 at hd
  split at hd
  · split at hd
    · rename_i x y z u hx hy hz hu
      have hd := Option.some.inj hd
      have e1 : q = (g x y z u).1 := by rw [hd]
      have e2 : rs = (g x y z u).2 := by rw [hd]
      subst e1; subst e2
      obtain ⟨rs2, he, hle⟩ := hs x y z u hg
      exact ⟨((fn_contract (ds := [p.put x, p'.put y, p''.put z, p3.put u]) h.ty h.calls h.mix h.fnc h.body h.nt h.io (Nat.le_of_ble_eq_true hn) he).of4 (p.le hx) (p'.le hy) (p''.le hz) (p3.le hu)).less hle, h.has⟩
    · cases hd
  · cases hd



/- Functions without a Go text. -/
def extIs (f : FuncId) (g : List Value → Option (Prop × List Value)) (r : FuncId → List Value → Option (Prop × List Value)) : FuncId → List Value → Option (Prop × List Value) := fun f' vs => bif Nat.beq f' f then g vs else r f' vs
def extNone : FuncId → List Value → Option (Prop × List Value) := fun _ _ => none
theorem extNone_ok : ExtOk P extNone := fun _ _ _ _ h => by cases h
/-- One such function is what the model says. -/
structure ExtFn (P : Program) (f : FuncId) (e : Array Value → Sem Value) : Prop where
  run : ∀ (args : Array Value) (w : World), (callFunc f args).run P w = ((e args).run P w).andThen fun v w' => .ok (.value v) w'
theorem extIs_ok {f : FuncId} {g : List Value → Option (Prop × List Value)} {r : FuncId → List Value → Option (Prop × List Value)} {e : Array Value → Sem Value} (hf : ExtFn P f e)
    (hg : ∀ vs q rs, g vs = some (q, rs) → q → (∀ v ∈ rs, v.oneCell' = true) ∧ ∀ w, (e vs.toArray).run P w = .ok (resV rs) w) (hr : ExtOk P r) : ExtOk P (extIs f g r) := by
  intro f' vs q rs h hq
  unfold extIs at h
  cases hb : Nat.beq f' f with
  | true =>
    rw [hb] at h
    have := Nat.eq_of_beq_eq_true hb
    subst this
    obtain ⟨h1, h2⟩ := hg vs q rs h hq
    exact ⟨h1, fun w => by rw [hf.run, h2]; rfl⟩
  | false => rw [hb] at h; exact hr f' vs q rs h hq
def gBits : List Value → Option (Prop × List Value)
  | [.float .f64 b] => some (True, [.int .u64 b])
  | _ => none
theorem gBits_ok (vs : List Value) (q : Prop) (rs : List Value) (h : gBits vs = some (q, rs)) (_ : q) : (∀ v ∈ rs, v.oneCell' = true) ∧ ∀ w, (Extern.MathFloatBits.float64bits vs.toArray).run P w = .ok (resV rs) w := by
  unfold gBits at h
  split at h
  · cases h
    exact ⟨by simp [Value.oneCell'], fun w => rfl⟩
  · cases h
def gFrom : List Value → Option (Prop × List Value)
  | [.int .u64 n] => some (True, [.float .f64 n.toNat])
  | _ => none
theorem gFrom_ok (vs : List Value) (q : Prop) (rs : List Value) (h : gFrom vs = some (q, rs)) (_ : q) : (∀ v ∈ rs, v.oneCell' = true) ∧ ∀ w, (Extern.MathFloatBits.float64frombits vs.toArray).run P w = .ok (resV rs) w := by
  unfold gFrom at h
  split at h
  · cases h
    exact ⟨by simp [Value.oneCell'], fun w => rfl⟩
  · cases h

def gAdd : List Value → Option (Prop × List Value)
  | [.int .u64 x, .int .u64 y, .int .u64 c] => some ((0 ≤ x ∧ 0 ≤ y ∧ 0 ≤ c ∧ c ≤ 1), [.int .u64 ((x + y + c) % 18446744073709551616), .int .u64 ((x + y + c) / 18446744073709551616)])
  | _ => none
theorem gAdd_ok (vs : List Value) (q : Prop) (rs : List Value) (h : gAdd vs = some (q, rs)) (hq : q) : (∀ v ∈ rs, v.oneCell' = true) ∧ ∀ w, (add64Entry vs.toArray).run P w = .ok (resV rs) w := by
  unfold gAdd at h
  split at h
  · cases h
    obtain ⟨h1, h2, h3, h4⟩ := hq
    exact ⟨by simp [Value.oneCell'], fun w => run_add64 _ _ _ h1 h2 h3 h4 w⟩
  · cases h
def sub64Entry : Array Value → Sem Value := fun args => do
  let (x, y, b) ← Extern.MathBitsCarry.three "Sub64" args
  pure (Extern.MathBitsCarry.pair ((x + Extern.MathBitsCarry.m64 - y - b) % Extern.MathBitsCarry.m64) (if x < y + b then 1 else 0))
theorem run_sub64 (x y c : Int) (hx : 0 ≤ x) (hy : 0 ≤ y) (hy' : y < 18446744073709551616) (hc0 : 0 ≤ c) (hc : c ≤ 1) (w : World) :
    (sub64Entry #[.int .u64 x, .int .u64 y, .int .u64 c]).run P w =
      .ok (.tuple #[.int .u64 ((x - y - c) % 18446744073709551616), .int .u64 (if x < y + c then 1 else 0)]) w := by
  have key : ∀ k : Nat, k ≤ 1 → (sub64Entry #[.int .u64 x, .int .u64 y, .int .u64 (k : Int)]).run P w =
      .ok (Extern.MathBitsCarry.pair ((x.toNat + Extern.MathBitsCarry.m64 - y.toNat - k) % Extern.MathBitsCarry.m64) (if x.toNat < y.toNat + k then 1 else 0)) w := by
    intro k hk
    have : k = 0 ∨ k = 1 := by omega
    rcases this with rfl | rfl <;> rfl
  obtain ⟨k, rfl⟩ := Int.eq_ofNat_of_zero_le hc0
  rw [key k (by omega)]
  obtain ⟨X, rfl⟩ := Int.eq_ofNat_of_zero_le hx
  obtain ⟨Y, rfl⟩ := Int.eq_ofNat_of_zero_le hy
  simp only [Extern.MathBitsCarry.pair, Extern.MathBitsCarry.m64, Int.toNat_natCast]
  have e1 : Int.ofNat ((X + 2 ^ 64 - Y - k) % 2 ^ 64) = ((X : Int) - Y - k) % 18446744073709551616 := by
    show ((((X + 2 ^ 64 - Y - k) % 2 ^ 64 : Nat)) : Int) = _
    omega
  have e2 : Int.ofNat (if X < Y + k then 1 else 0) = if (X : Int) < Y + k then 1 else 0 := by
    show (((if X < Y + k then 1 else 0 : Nat)) : Int) = _
    split <;> split <;> omega
  rw [e1, e2]
def gSub : List Value → Option (Prop × List Value)
  | [.int .u64 x, .int .u64 y, .int .u64 c] => some ((0 ≤ x ∧ 0 ≤ y ∧ y < 18446744073709551616 ∧ 0 ≤ c ∧ c ≤ 1), [.int .u64 ((x - y - c) % 18446744073709551616), .int .u64 (if x < y + c then 1 else 0)])
  | _ => none
theorem gSub_ok (vs : List Value) (q : Prop) (rs : List Value) (h : gSub vs = some (q, rs)) (hq : q) : (∀ v ∈ rs, v.oneCell' = true) ∧ ∀ w, (sub64Entry vs.toArray).run P w = .ok (resV rs) w := by
  unfold gSub at h
  split at h
  · cases h
    obtain ⟨h1, h2, h3, h4, h5⟩ := hq
    exact ⟨by simp [Value.oneCell'], fun w => run_sub64 _ _ _ h1 h2 h3 h4 h5 w⟩
  · cases h
theorem extFn_of {f : FuncId} {fn : Func} {e : Array Value → Sem Value} (hf : P.funcs[f]? = some fn) (hname : (fn.name == "runtime.NumGoroutine") = false)
    (hb : fn.body.isNone = true) (hn : Extern.findNext fn = none) (he : Extern.find fn = some e) : ExtFn P f e := ⟨fun args w => run_callFunc_extern hf hname hb hn he args w⟩

end Go.Proofs.YtknafopmgaolmaaGreatDoor.AI

/- Numbers and their digits to the base 2^32, least first. No program is in sight. -/
namespace Go.Proofs.YtknafopmgaolmaaGreatDoor.M
open Go

def val : List Int → Nat
  | [] => 0
  | d :: r => d.toNat + 4294967296 * val r
def dg (n : Nat) : List Int := if h : n = 0 then [] else ((n % 4294967296 : Nat) : Int) :: dg (n / 4294967296)
termination_by n
decreasing_by omega
def Dig (a : List Int) : Prop := ∀ d ∈ a, 0 ≤ d ∧ d < 4294967296
/-- Digits with none on top that is nought. -/
def Nrm (a : List Int) : Prop := a = dg (val a)

theorem dg_zero : dg 0 = [] := by rw [dg]; rfl
theorem dg_pos {n : Nat} (h : n ≠ 0) : dg n = ((n % 4294967296 : Nat) : Int) :: dg (n / 4294967296) := by rw [dg, dif_neg h]

theorem val_dg (n : Nat) : val (dg n) = n := by
  induction n using Nat.strongRecOn with
  | _ n ih =>
    by_cases h : n = 0
    · subst h; rw [dg_zero]; rfl
    · rw [dg_pos h, val, ih _ (by omega)]
      have := Nat.div_add_mod n 4294967296
      omega

theorem dig_nil : Dig [] := fun _ h => by cases h
theorem dig_cons {d : Int} {r : List Int} : Dig (d :: r) ↔ (0 ≤ d ∧ d < 4294967296) ∧ Dig r := by
  unfold Dig; simp
theorem dig_append {a b : List Int} : Dig (a ++ b) ↔ Dig a ∧ Dig b := by
  unfold Dig; simp only [List.mem_append]
  exact ⟨fun h => ⟨fun d hd => h d (.inl hd), fun d hd => h d (.inr hd)⟩, fun h d hd => hd.elim (h.1 d) (h.2 d)⟩
theorem Dig.take {a : List Int} (h : Dig a) (n : Nat) : Dig (a.take n) := fun d hd => h d (List.mem_of_mem_take hd)
theorem Dig.drop {a : List Int} (h : Dig a) (n : Nat) : Dig (a.drop n) := fun d hd => h d (List.mem_of_mem_drop hd)
theorem dig_replicate (n : Nat) : Dig (List.replicate n 0) := fun d hd => by rw [(List.mem_replicate.1 hd).2]; omega

theorem dig_dg (n : Nat) : Dig (dg n) := by
  induction n using Nat.strongRecOn with
  | _ n ih =>
    by_cases h : n = 0
    · subst h; rw [dg_zero]; exact dig_nil
    · rw [dg_pos h]; exact dig_cons.2 ⟨by omega, ih _ (by omega)⟩

theorem nrm_dg (n : Nat) : Nrm (dg n) := by unfold Nrm; rw [val_dg]
theorem Nrm.dig {a : List Int} (h : Nrm a) : Dig a := by rw [h]; exact dig_dg _

theorem val_append : ∀ (a b : List Int), val (a ++ b) = val a + 4294967296 ^ a.length * val b
  | [], b => by simp [val]
  | d :: a, b => by
    simp only [List.cons_append, val, val_append a b, List.length_cons, Nat.pow_succ]
    rw [Nat.mul_add, ← Nat.mul_assoc, Nat.mul_comm 4294967296 (4294967296 ^ a.length)]
    omega

theorem val_lt : ∀ {a : List Int}, Dig a → val a < 4294967296 ^ a.length
  | [], _ => by simp [val]
  | d :: a, h => by
    obtain ⟨h1, h2⟩ := dig_cons.1 h
    have := val_lt h2
    simp only [val, List.length_cons, Nat.pow_succ]
    have : d.toNat < 4294967296 := by omega
    have : 4294967296 * val a + 4294967296 ≤ 4294967296 ^ a.length * 4294967296 := by
      rw [Nat.mul_comm (4294967296 ^ a.length)]
      have : 4294967296 * (val a + 1) ≤ 4294967296 * 4294967296 ^ a.length := Nat.mul_le_mul_left _ (by omega)
      omega
    omega

theorem val_replicate : ∀ n, val (List.replicate n 0) = 0
  | 0 => rfl
  | n + 1 => by simp [List.replicate_succ, val, val_replicate n]

/-- Digits are those of their number, but for noughts on top. -/
theorem dg_val : ∀ {a : List Int}, Dig a → ∃ k, a = dg (val a) ++ List.replicate k 0
  | [], _ => ⟨0, by simp [val, dg_zero]⟩
  | d :: a, h => by
    obtain ⟨h1, h2⟩ := dig_cons.1 h
    obtain ⟨k, hk⟩ := dg_val h2
    by_cases hz : d.toNat + 4294967296 * val a = 0
    · have hd : d = 0 := by omega
      have hv : val a = 0 := by omega
      rw [hv, dg_zero] at hk
      refine ⟨k + 1, ?_⟩
      simp only [val]
      rw [hz, dg_zero, hd, hk]
      simp [List.replicate_succ]
    · refine ⟨k, ?_⟩
      simp only [val]
      rw [dg_pos hz]
      have e1 : (d.toNat + 4294967296 * val a) % 4294967296 = d.toNat := by omega
      have e2 : (d.toNat + 4294967296 * val a) / 4294967296 = val a := by omega
      rw [e1, e2, List.cons_append, ← hk]
      congr 1
      omega

theorem nrm_nil : Nrm [] := by unfold Nrm; simp [val, dg_zero]

/-- What has no nought on top is the digits of its number. -/
theorem nrm_of {a : List Int} (h : Dig a) (ht : ∀ d, a.getLast? = some d → d ≠ 0) : Nrm a := by
  obtain ⟨k, hk⟩ := dg_val h
  cases k with
  | zero => unfold Nrm; simpa using hk
  | succ k =>
    exfalso
    refine ht 0 ?_ rfl
    rw [hk, List.replicate_succ', ← List.append_assoc]
    simp

theorem Nrm.top {a : List Int} (h : Nrm a) {d : Int} (hd : a.getLast? = some d) : d ≠ 0 := by
  have key : ∀ n, ∀ d, (dg n).getLast? = some d → d ≠ 0 := by
    intro n
    induction n using Nat.strongRecOn with
    | _ n ih =>
      intro d hd
      by_cases hn : n = 0
      · subst hn; rw [dg_zero] at hd; cases hd
      · rw [dg_pos hn] at hd
        by_cases hq : n / 4294967296 = 0
        · rw [hq, dg_zero] at hd
          simp at hd
          omega
        · refine ih (n / 4294967296) (by omega) d ?_
          rw [dg_pos hq] at hd ⊢
          rwa [List.getLast?_cons_cons] at hd
  rw [h] at hd
  exact key _ d hd

theorem nrm_tail {d : Int} {a : List Int} (h : Nrm (d :: a)) : Nrm a := by
  have hd := h.dig
  refine nrm_of (dig_cons.1 hd).2 fun e he => h.top ?_
  cases a with
  | nil => cases he
  | cons x r => rwa [List.getLast?_cons_cons]

theorem len_dg_le {n k : Nat} (h : n < 4294967296 ^ k) : (dg n).length ≤ k := by
  induction k generalizing n with
  | zero => have : n = 0 := by simpa using h
            subst this; rw [dg_zero]; exact Nat.le_refl _
  | succ k ih =>
    by_cases hn : n = 0
    · subst hn; rw [dg_zero]; simp
    · rw [dg_pos hn, List.length_cons]
      have := ih (n := n / 4294967296) (by rw [Nat.pow_succ] at h; exact Nat.div_lt_of_lt_mul (by rw [Nat.mul_comm]; exact h))
      omega

theorem lt_of_len {n : Nat} : n < 4294967296 ^ (dg n).length := by
  have := val_lt (dig_dg n)
  rwa [val_dg] at this

theorem len_dg_mono {n m : Nat} (h : n ≤ m) : (dg n).length ≤ (dg m).length := len_dg_le (Nat.lt_of_le_of_lt h lt_of_len)

theorem len_val {a : List Int} (h : Dig a) : (dg (val a)).length ≤ a.length := len_dg_le (val_lt h)

theorem ge_of_len {n k : Nat} (h : k < (dg n).length) : 4294967296 ^ k ≤ n := by
  rcases Nat.lt_or_ge n (4294967296 ^ k) with h1 | h1
  · have := len_dg_le h1; omega
  · exact h1

theorem val_take_succ {a : List Int} {n : Nat} (h : n < a.length) : val (a.take (n + 1)) = val (a.take n) + 4294967296 ^ n * (a.getD n 0).toNat := by
  rw [List.take_succ_eq_append_getElem h, val_append, List.length_take, Nat.min_eq_left (by omega)]
  simp [val, List.getD_eq_getElem?_getD, h]

theorem val_take_drop (a : List Int) {n : Nat} (h : n ≤ a.length) : val a = val (a.take n) + 4294967296 ^ n * val (a.drop n) := by
  have e := val_append (a.take n) (a.drop n)
  rw [List.take_append_drop, List.length_take, Nat.min_eq_left h] at e
  exact e

theorem getD_mem {a : List Int} {n : Nat} (h : n < a.length) : a.getD n 0 ∈ a := by
  rw [List.getD_eq_getElem?_getD, List.getElem?_eq_getElem h]
  simp
theorem Dig.get {a : List Int} (h : Dig a) (n : Nat) : 0 ≤ a.getD n 0 ∧ a.getD n 0 < 4294967296 := by
  rcases Nat.lt_or_ge n a.length with hn | hn
  · exact h _ (getD_mem hn)
  · rw [List.getD_eq_getElem?_getD, List.getElem?_eq_none hn]; simp

theorem getLast_take {a : List Int} {n : Nat} (h : n < a.length) : (a.take (n + 1)).getLast? = some (a.getD n 0) := by
  rw [List.take_succ_eq_append_getElem h, List.getLast?_append]
  simp [List.getD_eq_getElem?_getD, h]
theorem copy_all {xs : List Int} {n : Nat} (h : n ≤ xs.length) : List.take n (List.drop 0 (List.take n xs)) ++ List.drop (min (List.drop 0 (List.take n xs)).length n) (List.replicate n 0) = xs.take n := by
  have e : (List.drop 0 (List.take n xs)).length = n := by simp; omega
  rw [e, Nat.min_self, List.drop_zero, List.take_take, Nat.min_self]
  simp

/- The machine's whole numbers. -/

theorem and_mask32 {w : Int} (h : 0 ≤ w) (h' : w < 18446744073709551616) : AI.bitsI .and .u64 w 4294967295 = w % 4294967296 := by
  obtain ⟨n, rfl⟩ := Int.eq_ofNat_of_zero_le h
  rw [AI.bitsI_eq]
  unfold AI.bitsI0
  simp only
  have e : (BitVec.ofInt IntKind.u64.bits (n : Int) &&& BitVec.ofInt IntKind.u64.bits 4294967295).toNat = n % 4294967296 := by
    show (BitVec.ofInt 64 (n : Int) &&& BitVec.ofInt 64 4294967295).toNat = _
    rw [BitVec.toNat_and]
    have e1 : (BitVec.ofInt 64 (n : Int)).toNat = n := by simp; omega
    have e2 : (BitVec.ofInt 64 4294967295).toNat = 2 ^ 32 - 1 := by decide
    rw [e1, e2, Nat.and_two_pow_sub_one_eq_mod]
  rw [e, wrap_u64 (by omega) (by omega)]
  omega

/- Ways. -/
section
variable {R : Type} {x y : Option R}
theorem bD_pos {p : Prop} [Decidable p] (h : p) : AI.bcase (decide p) x y = x := by simp only [AI.bcase, decide_eq_true h, cond_true]
theorem bD_neg {p : Prop} [Decidable p] (h : ¬ p) : AI.bcase (decide p) x y = y := by simp only [AI.bcase, decide_eq_false h, cond_false]
theorem bE_pos {a b : Int} (h : a = b) : AI.bcase (a == b) x y = x := by subst h; simp [AI.bcase]
theorem bE_neg {a b : Int} (h : a ≠ b) : AI.bcase (a == b) x y = y := by rw [beq_eq_false_iff_ne.2 h]; rfl
theorem bN_pos {a b : Int} (h : a ≠ b) : AI.bcase (a != b) x y = x := by rw [bne_iff_ne.2 h]; rfl
theorem bN_neg {a b : Int} (h : a = b) : AI.bcase (a != b) x y = y := by subst h; simp [AI.bcase]
theorem bT : AI.bcase true x y = x := rfl
theorem bF : AI.bcase false x y = y := rfl
theorem bB_pos {b : Bool} (h : b = true) : AI.bcase b x y = x := by rw [h]; rfl
theorem bB_neg {b : Bool} (h : b = false) : AI.bcase b x y = y := by rw [h]; rfl
theorem gP {g : Prop} (h : g) : AI.gif g x = x := AI.gif_pos h
end

theorem wrap_i64n {n : Int} (h : -9223372036854775808 ≤ n ∧ n < 9223372036854775808) : IntKind.i64.wrap n = n := wrap_i64 h.1 h.2
theorem wrap_u64n {n : Int} (h : 0 ≤ n ∧ n < 18446744073709551616) : IntKind.u64.wrap n = n := wrap_u64 h.1 h.2
theorem wrap_u32n {n : Int} (h : 0 ≤ n ∧ n < 4294967296) : IntKind.u32.wrap n = n := by rw [wrap_u32]; omega

/-- How two numbers stand. -/
def cmpN (a b : Nat) : Int := if a < b then -1 else if b < a then 1 else 0
theorem getD_none {a : List Int} {n : Nat} (h : a.length ≤ n) : a.getD n 0 = 0 := by
  rw [List.getD_eq_getElem?_getD, List.getElem?_eq_none h]; rfl
theorem val_take_ge {a : List Int} {n : Nat} (h : a.length ≤ n) : val (a.take n) = val a := by rw [List.take_of_length_le h]
/-- One digit more of what is taken, whether there is one or not. -/
theorem val_take_one {a : List Int} (n : Nat) : val (a.take (n + 1)) = val (a.take n) + 4294967296 ^ n * (a.getD n 0).toNat := by
  rcases Nat.lt_or_ge n a.length with h | h
  · exact val_take_succ h
  · rw [val_take_ge (by omega), val_take_ge h, getD_none h]; simp
theorem val_take_lt {a : List Int} (h : Dig a) (n : Nat) : val (a.take n) < 4294967296 ^ n := by
  have := val_lt (h.take n)
  exact Nat.lt_of_lt_of_le this (Nat.pow_le_pow_right (by omega) (by rw [List.length_take]; omega))
theorem val_push {a : List Int} {d : Int} : val (a ++ [d]) = val a + 4294967296 ^ a.length * d.toNat := by
  rw [val_append]; simp [val]
theorem dig_push {a : List Int} {d : Int} (h : Dig a) (hd : 0 ≤ d ∧ d < 4294967296) : Dig (a ++ [d]) := by
  rw [dig_append, dig_cons]; exact ⟨h, hd, dig_nil⟩
theorem nrm_dg' {a : List Int} (h : Nrm a) : dg (val a) = a := h.symm
theorem nrm_len_lt {a b : List Int} (ha : Dig a) (hb : Nrm b) (h : a.length < b.length) : val a < val b := by
  have h1 := val_lt ha
  have h2 : 4294967296 ^ a.length ≤ val b := ge_of_len (by rw [← hb]; exact h)
  omega
theorem nrm_eq {a b : List Int} (ha : Nrm a) (hb : Nrm b) (h : val a = val b) : a = b := by rw [ha, hb, h]
theorem len_zero {a : List Int} (ha : Nrm a) : a.length = 0 ↔ val a = 0 := by
  constructor
  · intro h; have : a = [] := List.length_eq_zero_iff.1 h; subst this; rfl
  · intro h; rw [ha, h, dg_zero]; rfl
theorem dg_len_zero {n : Nat} : (dg n).length = 0 ↔ n = 0 := by rw [len_zero (nrm_dg n), val_dg]
theorem dig_set {a : List Int} (h : Dig a) {n : Nat} {d : Int} (hd : 0 ≤ d ∧ d < 4294967296) : Dig (a.set n d) := by
  intro x hx
  rcases List.mem_or_eq_of_mem_set hx with h1 | h1
  · exact h x h1
  · subst h1; exact hd
theorem val_drop_set {a : List Int} {n : Nat} (h : n < a.length) (d : Int) : val ((a.set n d).drop n) = d.toNat + 4294967296 * val (a.drop (n + 1)) := by
  have e : (a.set n d).drop n = d :: a.drop (n + 1) := by
    rw [List.drop_eq_getElem_cons (by simpa using h)]
    simp [List.drop_set]
  rw [e]; rfl
theorem val_drop_one {a : List Int} (n : Nat) : val (a.drop n) = (a.getD n 0).toNat + 4294967296 * val (a.drop (n + 1)) := by
  rcases Nat.lt_or_ge n a.length with h | h
  · rw [List.drop_eq_getElem_cons h]
    simp [val, List.getD_eq_getElem?_getD, h]
  · rw [List.drop_eq_nil_of_le h, List.drop_eq_nil_of_le (by omega), getD_none h]; rfl
theorem div_step {l B n d r w : Nat} (hw : 0 < w) : ((l * B + d) * n + r) / w = (((l * B + d) % w) * n + r) / w + n * ((l * B + d) / w) := by
  have h := Nat.div_add_mod (l * B + d) w
  have e : (l * B + d) * n + r = ((l * B + d) % w * n + r) + w * (n * ((l * B + d) / w)) := by
    generalize l * B + d = t at *
    generalize t / w = q at *
    generalize t % w = m at *
    subst h
    rw [Nat.add_mul]
    have : w * q * n = w * (n * q) := by rw [Nat.mul_assoc, Nat.mul_comm q n]
    omega
  rw [e, Nat.add_mul_div_left _ _ hw]
theorem mod_step {l B n d r w : Nat} : ((l * B + d) * n + r) % w = (((l * B + d) % w) * n + r) % w := by
  conv => rhs; rw [Nat.add_mod, Nat.mul_mod, Nat.mod_mod, ← Nat.mul_mod, ← Nat.add_mod]
theorem cmpN_add (u v k : Nat) : cmpN (u + k) (v + k) = cmpN u v := by
  unfold cmpN
  simp only [Nat.add_lt_add_iff_right]
theorem toNat_ediv' {a b : Int} (ha : 0 ≤ a) (hb : 0 ≤ b) : (a / b).toNat = a.toNat / b.toNat := by
  obtain ⟨x, rfl⟩ := Int.eq_ofNat_of_zero_le ha
  obtain ⟨y, rfl⟩ := Int.eq_ofNat_of_zero_le hb
  rw [← Int.natCast_ediv, Int.toNat_natCast, Int.toNat_natCast, Int.toNat_natCast]
theorem toNat_emod' {a b : Int} (ha : 0 ≤ a) (hb : 0 ≤ b) : (a % b).toNat = a.toNat % b.toNat := by
  obtain ⟨x, rfl⟩ := Int.eq_ofNat_of_zero_le ha
  obtain ⟨y, rfl⟩ := Int.eq_ofNat_of_zero_le hb
  rw [← Int.natCast_emod, Int.toNat_natCast, Int.toNat_natCast, Int.toNat_natCast]
theorem toNat_lt {d : Int} {k : Nat} (h : 0 ≤ d ∧ d < (k : Int)) : d.toNat < k := by omega

end Go.Proofs.YtknafopmgaolmaaGreatDoor.M

/- Bit lengths, shifts. No program is in sight. -/
namespace Go.Proofs.YtknafopmgaolmaaGreatDoor.M
open Go

/-- The least k with n < 2^k. -/
def bl (n : Nat) : Nat := if n = 0 then 0 else n.log2 + 1
theorem bl_zero : bl 0 = 0 := rfl
theorem lt_bl (n : Nat) : n < 2 ^ bl n := by
  unfold bl
  split
  · omega
  · exact Nat.lt_log2_self
theorem bl_ge {n : Nat} (h : n ≠ 0) : 2 ^ (bl n - 1) ≤ n := by
  unfold bl
  rw [if_neg h]
  exact Nat.log2_self_le h
theorem bl_le {n k : Nat} : bl n ≤ k ↔ n < 2 ^ k := by
  constructor
  · intro h; exact Nat.lt_of_lt_of_le (lt_bl n) (Nat.pow_le_pow_right (by omega) h)
  · intro h
    by_cases hn : n = 0
    · subst hn; exact Nat.zero_le _
    · rcases Nat.lt_or_ge k (bl n) with h1 | h1
      · exfalso
        have h2 := bl_ge hn
        have h3 : 2 ^ k ≤ 2 ^ (bl n - 1) := Nat.pow_le_pow_right (by omega) (by omega)
        omega
      · exact h1
theorem lt_bl_iff {n k : Nat} : k < bl n ↔ 2 ^ k ≤ n := by
  have := @bl_le n k
  omega
theorem bl_pos {n : Nat} (h : n ≠ 0) : 0 < bl n := by rw [lt_bl_iff]; simp; omega
theorem bl_eq {n k : Nat} (h : 2 ^ k ≤ n) (h' : n < 2 ^ (k + 1)) : bl n = k + 1 := by
  have := bl_le.2 h'
  have := lt_bl_iff.2 h
  omega
theorem bl_add {r k t : Nat} (hr : r < 2 ^ k) (ht : t ≠ 0) : bl (r + 2 ^ k * t) = k + bl t := by
  have hp := bl_pos ht
  have e : k + bl t = (k + (bl t - 1)) + 1 := by omega
  rw [e]
  apply bl_eq
  · rw [Nat.pow_add]
    have := Nat.mul_le_mul_left (2 ^ k) (bl_ge ht)
    omega
  · have h1 := lt_bl t
    have h2 : 2 ^ k * (t + 1) ≤ 2 ^ k * 2 ^ bl t := Nat.mul_le_mul_left _ h1
    rw [← Nat.pow_add] at h2
    rw [Nat.mul_add] at h2
    have e2 : k + (bl t - 1) + 1 = k + bl t := by omega
    rw [e2]
    omega
theorem bl_mul {k t : Nat} (ht : t ≠ 0) : bl (2 ^ k * t) = k + bl t := by
  have := bl_add (r := 0) (k := k) (t := t) (Nat.pow_pos (by omega)) ht
  rwa [Nat.zero_add] at this
theorem bl_half {n : Nat} (h : n ≠ 0) : bl n = bl (n / 2) + 1 := by
  by_cases h2 : n / 2 = 0
  · rw [h2]
    have : n = 1 := by omega
    subst this; rfl
  · have := bl_add (r := n % 2) (k := 1) (t := n / 2) (by simp; omega) h2
    have e : n % 2 + 2 ^ 1 * (n / 2) = n := by omega
    rw [e] at this
    omega
theorem bl_mono {a b : Nat} (h : a ≤ b) : bl a ≤ bl b := bl_le.2 (Nat.lt_of_le_of_lt h (lt_bl b))

theorem pow32 (k : Nat) : 4294967296 ^ k = 2 ^ (32 * k) := by rw [Nat.pow_mul]
theorem len_dg_bits {n k : Nat} (h : n < 2 ^ k) : (dg n).length ≤ k / 32 + 1 := by
  apply len_dg_le
  rw [pow32]
  exact Nat.lt_of_lt_of_le h (Nat.pow_le_pow_right (by omega) (by omega))
theorem len_dg_bl (n : Nat) : (dg n).length ≤ bl n / 32 + 1 := len_dg_bits (lt_bl n)

theorem shl_wrap {k : Int} (h : 0 ≤ k) (h' : k < 32) : IntKind.u32.wrap (1 * ((2 ^ (min k.toNat 32) : Nat) : Int)) = ((2 ^ k.toNat : Nat) : Int) := by
  have e : min k.toNat 32 = k.toNat := by omega
  rw [e, Int.one_mul, wrap_u32]
  have : 2 ^ k.toNat < 2 ^ 32 := Nat.pow_lt_pow_right (by omega) (by omega)
  generalize 2 ^ k.toNat = p at *
  omega
theorem tdiv32 {n : Int} (h : 0 ≤ n) : n.tdiv 32 = n / 32 := Int.tdiv_eq_ediv_of_nonneg h
theorem tmod32 {n : Int} (h : 0 ≤ n) : n.tmod 32 = n % 32 := Int.tmod_eq_emod_of_nonneg h
theorem pow_split (n : Nat) : 2 ^ n = 4294967296 ^ (n / 32) * 2 ^ (n % 32) := by
  rw [pow32, ← Nat.pow_add]; congr 1; omega
theorem div_split (v n : Nat) : v / 4294967296 ^ (n / 32) / 2 ^ (n % 32) = v / 2 ^ n := by
  rw [Nat.div_div_eq_div_mul, ← pow_split]
theorem val_drop_div {a : List Int} (h : Dig a) (n : Nat) : val (a.drop n) = val a / 4294967296 ^ n := by
  rcases Nat.le_or_ge n a.length with hn | hn
  · rw [val_take_drop a hn, Nat.add_mul_div_left _ _ (Nat.pow_pos (by omega)), Nat.div_eq_of_lt (val_take_lt h n), Nat.zero_add]
  · rw [List.drop_eq_nil_of_le hn, Nat.div_eq_of_lt]
    · rfl
    · exact Nat.lt_of_lt_of_le (val_lt h) (Nat.pow_le_pow_right (by omega) hn)
end Go.Proofs.YtknafopmgaolmaaGreatDoor.M

/- Numbers and their digits to the base 2^64, least first. No program is in sight. -/
namespace Go.Proofs.YtknafopmgaolmaaGreatDoor.M6
open Go

def val : List Int → Nat
  | [] => 0
  | d :: r => d.toNat + 18446744073709551616 * val r
def dg (n : Nat) : List Int := if h : n = 0 then [] else ((n % 18446744073709551616 : Nat) : Int) :: dg (n / 18446744073709551616)
termination_by n
decreasing_by omega
def Dig (a : List Int) : Prop := ∀ d ∈ a, 0 ≤ d ∧ d < 18446744073709551616
/-- Digits with none on top that is nought. -/
def Nrm (a : List Int) : Prop := a = dg (val a)

theorem dg_zero : dg 0 = [] := by rw [dg]; rfl
theorem dg_pos {n : Nat} (h : n ≠ 0) : dg n = ((n % 18446744073709551616 : Nat) : Int) :: dg (n / 18446744073709551616) := by rw [dg, dif_neg h]

theorem val_dg (n : Nat) : val (dg n) = n := by
  induction n using Nat.strongRecOn with
  | _ n ih =>
    by_cases h : n = 0
    · subst h; rw [dg_zero]; rfl
    · rw [dg_pos h, val, ih _ (by omega)]
      have := Nat.div_add_mod n 18446744073709551616
      omega

theorem dig_nil : Dig [] := fun _ h => by cases h
theorem dig_cons {d : Int} {r : List Int} : Dig (d :: r) ↔ (0 ≤ d ∧ d < 18446744073709551616) ∧ Dig r := by
  unfold Dig; simp
theorem dig_append {a b : List Int} : Dig (a ++ b) ↔ Dig a ∧ Dig b := by
  unfold Dig; simp only [List.mem_append]
  exact ⟨fun h => ⟨fun d hd => h d (.inl hd), fun d hd => h d (.inr hd)⟩, fun h d hd => hd.elim (h.1 d) (h.2 d)⟩
theorem Dig.take {a : List Int} (h : Dig a) (n : Nat) : Dig (a.take n) := fun d hd => h d (List.mem_of_mem_take hd)
theorem Dig.drop {a : List Int} (h : Dig a) (n : Nat) : Dig (a.drop n) := fun d hd => h d (List.mem_of_mem_drop hd)
theorem dig_replicate (n : Nat) : Dig (List.replicate n 0) := fun d hd => by rw [(List.mem_replicate.1 hd).2]; omega

theorem dig_dg (n : Nat) : Dig (dg n) := by
  induction n using Nat.strongRecOn with
  | _ n ih =>
    by_cases h : n = 0
    · subst h; rw [dg_zero]; exact dig_nil
    · rw [dg_pos h]; exact dig_cons.2 ⟨by omega, ih _ (by omega)⟩

theorem nrm_dg (n : Nat) : Nrm (dg n) := by unfold Nrm; rw [val_dg]
theorem Nrm.dig {a : List Int} (h : Nrm a) : Dig a := by rw [h]; exact dig_dg _

theorem val_append : ∀ (a b : List Int), val (a ++ b) = val a + 18446744073709551616 ^ a.length * val b
  | [], b => by simp [val]
  | d :: a, b => by
    simp only [List.cons_append, val, val_append a b, List.length_cons, Nat.pow_succ]
    rw [Nat.mul_add, ← Nat.mul_assoc, Nat.mul_comm 18446744073709551616 (18446744073709551616 ^ a.length)]
    omega

theorem val_lt : ∀ {a : List Int}, Dig a → val a < 18446744073709551616 ^ a.length
  | [], _ => by simp [val]
  | d :: a, h => by
    obtain ⟨h1, h2⟩ := dig_cons.1 h
    have := val_lt h2
    simp only [val, List.length_cons, Nat.pow_succ]
    have : d.toNat < 18446744073709551616 := by omega
    have : 18446744073709551616 * val a + 18446744073709551616 ≤ 18446744073709551616 ^ a.length * 18446744073709551616 := by
      rw [Nat.mul_comm (18446744073709551616 ^ a.length)]
      have : 18446744073709551616 * (val a + 1) ≤ 18446744073709551616 * 18446744073709551616 ^ a.length := Nat.mul_le_mul_left _ (by omega)
      omega
    omega

theorem val_replicate : ∀ n, val (List.replicate n 0) = 0
  | 0 => rfl
  | n + 1 => by simp [List.replicate_succ, val, val_replicate n]

/-- Digits are those of their number, but for noughts on top. -/
theorem dg_val : ∀ {a : List Int}, Dig a → ∃ k, a = dg (val a) ++ List.replicate k 0
  | [], _ => ⟨0, by simp [val, dg_zero]⟩
  | d :: a, h => by
    obtain ⟨h1, h2⟩ := dig_cons.1 h
    obtain ⟨k, hk⟩ := dg_val h2
    by_cases hz : d.toNat + 18446744073709551616 * val a = 0
    · have hd : d = 0 := by omega
      have hv : val a = 0 := by omega
      rw [hv, dg_zero] at hk
      refine ⟨k + 1, ?_⟩
      simp only [val]
      rw [hz, dg_zero, hd, hk]
      simp [List.replicate_succ]
    · refine ⟨k, ?_⟩
      simp only [val]
      rw [dg_pos hz]
      have e1 : (d.toNat + 18446744073709551616 * val a) % 18446744073709551616 = d.toNat := by omega
      have e2 : (d.toNat + 18446744073709551616 * val a) / 18446744073709551616 = val a := by omega
      rw [e1, e2, List.cons_append, ← hk]
      congr 1
      omega

theorem nrm_nil : Nrm [] := by unfold Nrm; simp [val, dg_zero]

/-- What has no nought on top is the digits of its number. -/
theorem nrm_of {a : List Int} (h : Dig a) (ht : ∀ d, a.getLast? = some d → d ≠ 0) : Nrm a := by
  obtain ⟨k, hk⟩ := dg_val h
  cases k with
  | zero => unfold Nrm; simpa using hk
  | succ k =>
    exfalso
    refine ht 0 ?_ rfl
    rw [hk, List.replicate_succ', ← List.append_assoc]
    simp

theorem Nrm.top {a : List Int} (h : Nrm a) {d : Int} (hd : a.getLast? = some d) : d ≠ 0 := by
  have key : ∀ n, ∀ d, (dg n).getLast? = some d → d ≠ 0 := by
    intro n
    induction n using Nat.strongRecOn with
    | _ n ih =>
      intro d hd
      by_cases hn : n = 0
      · subst hn; rw [dg_zero] at hd; cases hd
      · rw [dg_pos hn] at hd
        by_cases hq : n / 18446744073709551616 = 0
        · rw [hq, dg_zero] at hd
          simp at hd
          omega
        · refine ih (n / 18446744073709551616) (by omega) d ?_
          rw [dg_pos hq] at hd ⊢
          rwa [List.getLast?_cons_cons] at hd
  rw [h] at hd
  exact key _ d hd

theorem nrm_tail {d : Int} {a : List Int} (h : Nrm (d :: a)) : Nrm a := by
  have hd := h.dig
  refine nrm_of (dig_cons.1 hd).2 fun e he => h.top ?_
  cases a with
  | nil => cases he
  | cons x r => rwa [List.getLast?_cons_cons]

theorem len_dg_le {n k : Nat} (h : n < 18446744073709551616 ^ k) : (dg n).length ≤ k := by
  induction k generalizing n with
  | zero => have : n = 0 := by simpa using h
            subst this; rw [dg_zero]; exact Nat.le_refl _
  | succ k ih =>
    by_cases hn : n = 0
    · subst hn; rw [dg_zero]; simp
    · rw [dg_pos hn, List.length_cons]
      have := ih (n := n / 18446744073709551616) (by rw [Nat.pow_succ] at h; exact Nat.div_lt_of_lt_mul (by rw [Nat.mul_comm]; exact h))
      omega

theorem lt_of_len {n : Nat} : n < 18446744073709551616 ^ (dg n).length := by
  have := val_lt (dig_dg n)
  rwa [val_dg] at this

theorem len_dg_mono {n m : Nat} (h : n ≤ m) : (dg n).length ≤ (dg m).length := len_dg_le (Nat.lt_of_le_of_lt h lt_of_len)

theorem len_val {a : List Int} (h : Dig a) : (dg (val a)).length ≤ a.length := len_dg_le (val_lt h)

theorem ge_of_len {n k : Nat} (h : k < (dg n).length) : 18446744073709551616 ^ k ≤ n := by
  rcases Nat.lt_or_ge n (18446744073709551616 ^ k) with h1 | h1
  · have := len_dg_le h1; omega
  · exact h1

theorem val_take_succ {a : List Int} {n : Nat} (h : n < a.length) : val (a.take (n + 1)) = val (a.take n) + 18446744073709551616 ^ n * (a.getD n 0).toNat := by
  rw [List.take_succ_eq_append_getElem h, val_append, List.length_take, Nat.min_eq_left (by omega)]
  simp [val, List.getD_eq_getElem?_getD, h]

theorem val_take_drop (a : List Int) {n : Nat} (h : n ≤ a.length) : val a = val (a.take n) + 18446744073709551616 ^ n * val (a.drop n) := by
  have e := val_append (a.take n) (a.drop n)
  rw [List.take_append_drop, List.length_take, Nat.min_eq_left h] at e
  exact e

theorem getD_mem {a : List Int} {n : Nat} (h : n < a.length) : a.getD n 0 ∈ a := by
  rw [List.getD_eq_getElem?_getD, List.getElem?_eq_getElem h]
  simp
theorem Dig.get {a : List Int} (h : Dig a) (n : Nat) : 0 ≤ a.getD n 0 ∧ a.getD n 0 < 18446744073709551616 := by
  rcases Nat.lt_or_ge n a.length with hn | hn
  · exact h _ (getD_mem hn)
  · rw [List.getD_eq_getElem?_getD, List.getElem?_eq_none hn]; simp

theorem getLast_take {a : List Int} {n : Nat} (h : n < a.length) : (a.take (n + 1)).getLast? = some (a.getD n 0) := by
  rw [List.take_succ_eq_append_getElem h, List.getLast?_append]
  simp [List.getD_eq_getElem?_getD, h]
theorem copy_all {xs : List Int} {n : Nat} (h : n ≤ xs.length) : List.take n (List.drop 0 (List.take n xs)) ++ List.drop (min (List.drop 0 (List.take n xs)).length n) (List.replicate n 0) = xs.take n := by
  have e : (List.drop 0 (List.take n xs)).length = n := by simp; omega
  rw [e, Nat.min_self, List.drop_zero, List.take_take, Nat.min_self]
  simp

theorem getD_none {a : List Int} {n : Nat} (h : a.length ≤ n) : a.getD n 0 = 0 := by
  rw [List.getD_eq_getElem?_getD, List.getElem?_eq_none h]; rfl
theorem val_take_ge {a : List Int} {n : Nat} (h : a.length ≤ n) : val (a.take n) = val a := by rw [List.take_of_length_le h]
/-- One digit more of what is taken, whether there is one or not. -/
theorem val_take_one {a : List Int} (n : Nat) : val (a.take (n + 1)) = val (a.take n) + 18446744073709551616 ^ n * (a.getD n 0).toNat := by
  rcases Nat.lt_or_ge n a.length with h | h
  · exact val_take_succ h
  · rw [val_take_ge (by omega), val_take_ge h, getD_none h]; simp
theorem val_take_lt {a : List Int} (h : Dig a) (n : Nat) : val (a.take n) < 18446744073709551616 ^ n := by
  have := val_lt (h.take n)
  exact Nat.lt_of_lt_of_le this (Nat.pow_le_pow_right (by omega) (by rw [List.length_take]; omega))
theorem val_push {a : List Int} {d : Int} : val (a ++ [d]) = val a + 18446744073709551616 ^ a.length * d.toNat := by
  rw [val_append]; simp [val]
theorem dig_push {a : List Int} {d : Int} (h : Dig a) (hd : 0 ≤ d ∧ d < 18446744073709551616) : Dig (a ++ [d]) := by
  rw [dig_append, dig_cons]; exact ⟨h, hd, dig_nil⟩
theorem nrm_dg' {a : List Int} (h : Nrm a) : dg (val a) = a := h.symm
theorem nrm_len_lt {a b : List Int} (ha : Dig a) (hb : Nrm b) (h : a.length < b.length) : val a < val b := by
  have h1 := val_lt ha
  have h2 : 18446744073709551616 ^ a.length ≤ val b := ge_of_len (by rw [← hb]; exact h)
  omega
theorem nrm_eq {a b : List Int} (ha : Nrm a) (hb : Nrm b) (h : val a = val b) : a = b := by rw [ha, hb, h]
theorem len_zero {a : List Int} (ha : Nrm a) : a.length = 0 ↔ val a = 0 := by
  constructor
  · intro h; have : a = [] := List.length_eq_zero_iff.1 h; subst this; rfl
  · intro h; rw [ha, h, dg_zero]; rfl
theorem dg_len_zero {n : Nat} : (dg n).length = 0 ↔ n = 0 := by rw [len_zero (nrm_dg n), val_dg]
theorem dig_set {a : List Int} (h : Dig a) {n : Nat} {d : Int} (hd : 0 ≤ d ∧ d < 18446744073709551616) : Dig (a.set n d) := by
  intro x hx
  rcases List.mem_or_eq_of_mem_set hx with h1 | h1
  · exact h x h1
  · subst h1; exact hd
theorem val_drop_set {a : List Int} {n : Nat} (h : n < a.length) (d : Int) : val ((a.set n d).drop n) = d.toNat + 18446744073709551616 * val (a.drop (n + 1)) := by
  have e : (a.set n d).drop n = d :: a.drop (n + 1) := by
    rw [List.drop_eq_getElem_cons (by simpa using h)]
    simp [List.drop_set]
  rw [e]; rfl
theorem val_drop_one {a : List Int} (n : Nat) : val (a.drop n) = (a.getD n 0).toNat + 18446744073709551616 * val (a.drop (n + 1)) := by
  rcases Nat.lt_or_ge n a.length with h | h
  · rw [List.drop_eq_getElem_cons h]
    simp [val, List.getD_eq_getElem?_getD, h]
  · rw [List.drop_eq_nil_of_le h, List.drop_eq_nil_of_le (by omega), getD_none h]; rfl
theorem div_step {l B n d r w : Nat} (hw : 0 < w) : ((l * B + d) * n + r) / w = (((l * B + d) % w) * n + r) / w + n * ((l * B + d) / w) := by
  have h := Nat.div_add_mod (l * B + d) w
  have e : (l * B + d) * n + r = ((l * B + d) % w * n + r) + w * (n * ((l * B + d) / w)) := by
    generalize l * B + d = t at *
    generalize t / w = q at *
    generalize t % w = m at *
    subst h
    rw [Nat.add_mul]
    have : w * q * n = w * (n * q) := by rw [Nat.mul_assoc, Nat.mul_comm q n]
    omega
  rw [e, Nat.add_mul_div_left _ _ hw]
theorem mod_step {l B n d r w : Nat} : ((l * B + d) * n + r) % w = (((l * B + d) % w) * n + r) % w := by
  conv => rhs; rw [Nat.add_mod, Nat.mul_mod, Nat.mod_mod, ← Nat.mul_mod, ← Nat.add_mod]
theorem toNat_lt {d : Int} {k : Nat} (h : 0 ≤ d ∧ d < (k : Int)) : d.toNat < k := by omega

end Go.Proofs.YtknafopmgaolmaaGreatDoor.M6

/- Whole numbers with a sign, as they lie. No program is in sight. -/
namespace Go.Proofs.YtknafopmgaolmaaGreatDoor.M
open Go Go.Proofs.YtknafopmgaolmaaGreatDoor.AI

def zs (b : Bool) (n : Nat) : Int := bif b then -(n : Int) else n
def zv (x : Bool × List Int) : Int := zs x.1 (val x.2)
/-- In form, and not too long. -/
def Zok (x : Bool × List Int) : Prop := Nrm x.2 ∧ (x.1 = true → val x.2 ≠ 0) ∧ x.2.length ≤ 549755813888
def isNeg (z : Int) : Bool := match z with
  | .negSucc _ => true
  | .ofNat _ => false
/-- A number in form, as its cells. -/
def zD (z : Int) : D := .agg [.sc (.bool (isNeg z)), .ints .u32 (dg z.natAbs)]
theorem isNeg_iff {z : Int} : isNeg z = true ↔ z < 0 := by cases z <;> simp [isNeg] <;> omega
theorem isNeg_false {z : Int} : isNeg z = false ↔ 0 ≤ z := by cases z <;> simp [isNeg] <;> omega
theorem zv_zD (z : Int) : zv (isNeg z, dg z.natAbs) = z := by
  unfold zv zs
  simp only [val_dg]
  cases h : isNeg z with
  | true => have := isNeg_iff.1 h; simp only [cond_true]; omega
  | false => have := isNeg_false.1 h; simp only [cond_false]; omega
theorem zok_zD {z : Int} (h : (dg z.natAbs).length ≤ 549755813888) : Zok (isNeg z, dg z.natAbs) := by
  refine ⟨nrm_dg _, fun hn => ?_, h⟩
  rw [val_dg]
  have := isNeg_iff.1 hn
  omega
/-- Numbers of not too many bits. -/
theorem zok_bits {z : Int} {k : Nat} (h : z.natAbs < 2 ^ k) (hk : k ≤ 17179869184) : Zok (isNeg z, dg z.natAbs) :=
  zok_zD (Nat.le_trans (len_dg_bits h) (by omega))
theorem zs_neg (b : Bool) (n : Nat) : isNeg (zs b n) = (b && decide (n ≠ 0)) := by
  unfold zs
  cases b with
  | false => simp only [cond_false, Bool.false_and]; exact isNeg_false.2 (by omega)
  | true =>
    simp only [cond_true, Bool.true_and]
    by_cases h : n = 0
    · subst h; rfl
    · rw [decide_eq_true h]; exact isNeg_iff.2 (by omega)
theorem zs_abs (b : Bool) (n : Nat) : (zs b n).natAbs = n := by
  unfold zs
  cases b <;> simp
theorem zD_zs (b : Bool) (n : Nat) : zD (zs b n) = .agg [.sc (.bool (b && decide (n ≠ 0))), .ints .u32 (dg n)] := by
  unfold zD
  rw [zs_neg, zs_abs]
/-- Of one in form: its sign, its digits. -/
theorem Zok.cells {x : Bool × List Int} (h : Zok x) : isNeg (zv x) = x.1 ∧ dg (zv x).natAbs = x.2 := by
  obtain ⟨h1, h2, h3⟩ := h
  unfold zv
  rw [zs_neg, zs_abs, ← h1]
  refine ⟨?_, rfl⟩
  cases hx : x.1 with
  | false => rfl
  | true => rw [decide_eq_true (h2 hx)]; rfl
theorem Zok.len {x : Bool × List Int} (h : Zok x) : x.2.length ≤ 549755813888 := h.2.2
theorem zv_abs (x : Bool × List Int) : (zv x).natAbs = val x.2 := zs_abs _ _
theorem zv_neg {x : Bool × List Int} (h : x.1 = true) : zv x = -(val x.2 : Int) := by unfold zv zs; rw [h]; rfl
theorem zv_pos {x : Bool × List Int} (h : x.1 = false) : zv x = (val x.2 : Int) := by unfold zv zs; rw [h]; rfl
theorem len_dg_add (a b : Nat) : (dg (a + b)).length ≤ max (dg a).length (dg b).length + 1 := by
  apply len_dg_le
  have h1 := lt_of_len (n := a)
  have h2 := lt_of_len (n := b)
  have h3 : 4294967296 ^ (dg a).length ≤ 4294967296 ^ max (dg a).length (dg b).length := Nat.pow_le_pow_right (by omega) (by omega)
  have h4 : 4294967296 ^ (dg b).length ≤ 4294967296 ^ max (dg a).length (dg b).length := Nat.pow_le_pow_right (by omega) (by omega)
  rw [Nat.pow_succ]
  generalize 4294967296 ^ max (dg a).length (dg b).length = p at *
  omega
def cmpZ (a b : Int) : Int := if a < b then -1 else if b < a then 1 else 0
theorem dg_one : dg 1 = [1] := by simp [dg]
theorem cmpN_ge {a b : Nat} : 0 ≤ cmpN a b ↔ b ≤ a := by unfold cmpN; split <;> (try split) <;> omega

theorem len_dg_shl (n k : Nat) : (dg (n * 2 ^ k)).length ≤ (dg n).length + k / 32 + 1 := by
  apply len_dg_le
  have h1 := lt_of_len (n := n)
  have h2 : 2 ^ k ≤ 4294967296 ^ (k / 32 + 1) := by rw [pow32]; exact Nat.pow_le_pow_right (by omega) (by omega)
  have h3 : 0 < 2 ^ k := Nat.pow_pos (by omega)
  rw [show (dg n).length + k / 32 + 1 = (dg n).length + (k / 32 + 1) from by omega, Nat.pow_add]
  have h4 : n * 2 ^ k < 4294967296 ^ (dg n).length * 2 ^ k := Nat.mul_lt_mul_of_pos_right h1 h3
  exact Nat.lt_of_lt_of_le h4 (Nat.mul_le_mul_left _ h2)
theorem len_dg_sub (a b : Nat) : (dg (a - b)).length ≤ (dg a).length := len_dg_mono (Nat.sub_le _ _)
theorem len_dg_div (a b : Nat) : (dg (a / b)).length ≤ (dg a).length := len_dg_mono (Nat.div_le_self _ _)
theorem bl_len {a : List Int} (h : Dig a) {n : Nat} (hn : a.length ≤ n) : bl (val a) ≤ 32 * n := by
  rw [bl_le, ← pow32]
  exact Nat.lt_of_lt_of_le (val_lt h) (Nat.pow_le_pow_right (by omega) hn)
theorem bl_add_le (a b : Nat) : bl (a + b) ≤ max (bl a) (bl b) + 1 := by
  rw [bl_le, Nat.pow_succ]
  have h1 := lt_bl a
  have h2 := lt_bl b
  have h3 : 2 ^ bl a ≤ 2 ^ max (bl a) (bl b) := Nat.pow_le_pow_right (by omega) (by omega)
  have h4 : 2 ^ bl b ≤ 2 ^ max (bl a) (bl b) := Nat.pow_le_pow_right (by omega) (by omega)
  omega
theorem bl_mul_le (a b : Nat) : bl (a * b) ≤ bl a + bl b := by
  rw [bl_le, Nat.pow_add]
  exact Nat.mul_lt_mul'' (lt_bl a) (lt_bl b)
theorem zok_bl {z : Int} {k : Nat} (h : bl z.natAbs ≤ k) (hk : k ≤ 17179869184) : Zok (isNeg z, dg z.natAbs) := zok_bits (bl_le.1 h) hk
theorem len_bl {n k : Nat} (h : bl n ≤ k) : (dg n).length ≤ k / 32 + 1 := len_dg_bits (bl_le.1 h)
theorem cmpZ_sub (a b : Int) : cmpZ (a - b) 0 = cmpZ a b := by unfold cmpZ; split <;> split <;> (try split) <;> (try split) <;> omega
theorem nrm_len {x : List Int} (h : Nrm x) : (dg (val x)).length = x.length := by rw [← h]

/- The formats. -/
abbrev K6 := Int × Int × Int × Int × Int × Int
def kf (w : Bool) : K6 := bif w then (9223372036854775808, 53, -1074, 971, 9218868437227405312, 9221120237041090561) else (2147483648, 24, -149, 104, 2139095040, 2143289345)
def IsK (k : K6) : Prop := k = kf true ∨ k = kf false
/-- The precision; the hidden bit; the least exponent. -/
def kP (k : K6) : Nat := k.2.1.toNat
def kH (k : K6) : Nat := 2 ^ (kP k - 1)
def kE (k : K6) : Int := k.2.2.1
def kG (k : K6) : Int := k.2.2.2.1
def kI (k : K6) : Int := k.2.2.2.2.1
def partM (k : K6) (b : Nat) : Nat := if b / kH k = 0 then b else kH k + b % kH k
/-- How far above the least exponent. -/
def partX (k : K6) (b : Nat) : Nat := b / kH k - 1
def wholeN (k : K6) (b : Nat) : Nat := partM k b * 2 ^ partX k b
def sizeN (k : K6) (n : Nat) : Nat := if bl n < kP k then n else (bl n - kP k) * kH k + n / 2 ^ (bl n - kP k)
def holdZ (m : Int) (e : Int) (l : Int) (f : Int) : Int := cmpZ (m * 2 ^ (e - f).toNat) (l * 2 ^ (f - e).toNat)
/-- Which of s and the size behind it. -/
def roundS (k : K6) (n : Nat) (e : Int) (s : Nat) : Int :=
  min (if 0 < holdZ n e (wholeN k s + wholeN k (s + 1) : Nat) (kE k - 1) ∨ (holdZ n e (wholeN k s + wholeN k (s + 1) : Nat) (kE k - 1) = 0 ∧ s % 2 = 1) then (s : Int) + 1 else s) (kI k)
/-- The size of n * 2^e, rounded. -/
def roundN (k : K6) (n : Nat) (e : Int) : Int :=
  if n = 0 ∨ (bl n : Int) + e < kE k then 0 else if kG k + kP k < (bl n : Int) + e then kI k else
    roundS k n e (sizeN k (if kE k ≤ e then n * 2 ^ (e - kE k).toNat else n / 2 ^ (kE k - e).toNat))
end Go.Proofs.YtknafopmgaolmaaGreatDoor.M

/- Bits of words; limbs of 64 bits. No program is in sight. -/
namespace Go.Proofs.YtknafopmgaolmaaGreatDoor.M
open Go

theorem and64 {a b : Int} (ha : 0 ≤ a) (ha' : a < 18446744073709551616) (hb : 0 ≤ b) (hb' : b < 18446744073709551616) : AI.bitsI .and .u64 a b = ((a.toNat &&& b.toNat : Nat) : Int) := by
  obtain ⟨n, rfl⟩ := Int.eq_ofNat_of_zero_le ha
  obtain ⟨m, rfl⟩ := Int.eq_ofNat_of_zero_le hb
  rw [AI.bitsI_eq]
  unfold AI.bitsI0
  simp only
  have e : (BitVec.ofInt IntKind.u64.bits (n : Int) &&& BitVec.ofInt IntKind.u64.bits (m : Int)).toNat = n &&& m := by
    show (BitVec.ofInt 64 (n : Int) &&& BitVec.ofInt 64 (m : Int)).toNat = _
    rw [BitVec.toNat_and]
    have e1 : (BitVec.ofInt 64 (n : Int)).toNat = n := by simp; omega
    have e2 : (BitVec.ofInt 64 (m : Int)).toNat = m := by simp; omega
    rw [e1, e2]
  have hle : n &&& m ≤ n := Nat.and_le_left
  rw [e, wrap_u64 (by omega) (by omega)]
  rfl
theorem or64 {a b : Int} (ha : 0 ≤ a) (ha' : a < 18446744073709551616) (hb : 0 ≤ b) (hb' : b < 18446744073709551616) : AI.bitsI .or .u64 a b = ((a.toNat ||| b.toNat : Nat) : Int) := by
  obtain ⟨n, rfl⟩ := Int.eq_ofNat_of_zero_le ha
  obtain ⟨m, rfl⟩ := Int.eq_ofNat_of_zero_le hb
  rw [AI.bitsI_eq]
  unfold AI.bitsI0
  simp only
  have e : (BitVec.ofInt IntKind.u64.bits (n : Int) ||| BitVec.ofInt IntKind.u64.bits (m : Int)).toNat = n ||| m := by
    show (BitVec.ofInt 64 (n : Int) ||| BitVec.ofInt 64 (m : Int)).toNat = _
    rw [BitVec.toNat_or]
    have e1 : (BitVec.ofInt 64 (n : Int)).toNat = n := by simp; omega
    have e2 : (BitVec.ofInt 64 (m : Int)).toNat = m := by simp; omega
    rw [e1, e2]
  have hlt : n ||| m < 2 ^ 64 := Nat.or_lt_two_pow (by omega) (by omega)
  rw [e, wrap_u64 (by omega) (by omega)]
  rfl

/-- How often 2 divides n (nought of nought). -/
def tz : Nat → Nat
  | 0 => 0
  | n + 1 => if (n + 1) % 2 = 1 then 0 else tz ((n + 1) / 2) + 1
termination_by n => n
decreasing_by omega
theorem tz_odd {n : Nat} (h : n % 2 = 1) : tz n = 0 := by
  cases n with
  | zero => omega
  | succ n => rw [tz, if_pos h]
theorem tz_even {n : Nat} (h0 : n ≠ 0) (h : n % 2 = 0) : tz n = tz (n / 2) + 1 := by
  cases n with
  | zero => omega
  | succ n => rw [tz, if_neg (by omega)]
theorem tz_spec : ∀ n, n ≠ 0 → n % 2 ^ tz n = 0 ∧ (n / 2 ^ tz n) % 2 = 1 := by
  intro n
  induction n using Nat.strongRecOn with
  | _ n ih =>
    intro h0
    by_cases h : n % 2 = 1
    · rw [tz_odd h]; simp [Nat.mod_one]; exact h
    · rw [tz_even h0 (by omega)]
      obtain ⟨h1, h2⟩ := ih (n / 2) (by omega) (by omega)
      have e : 2 ^ (tz (n / 2) + 1) = 2 * 2 ^ tz (n / 2) := by rw [Nat.pow_succ]; omega
      rw [e]
      refine ⟨?_, by rw [← Nat.div_div_eq_div_mul]; exact h2⟩
      have h3 := Nat.div_add_mod (n / 2) (2 ^ tz (n / 2))
      rw [h1] at h3
      generalize tz (n / 2) = t at *
      have h4 : n = 2 * 2 ^ t * (n / 2 / 2 ^ t) := by rw [Nat.mul_assoc]; omega
      generalize n / 2 / 2 ^ t = q at *
      rw [h4]
      exact Nat.mul_mod_right _ _
theorem tz_lt {n : Nat} (h : n ≠ 0) : 2 ^ tz n ≤ n := by
  obtain ⟨h1, h2⟩ := tz_spec n h
  have h3 := Nat.div_add_mod n (2 ^ tz n)
  rw [h1] at h3
  generalize 2 ^ tz n = p at *
  generalize n / p = q at *
  have : p * 1 ≤ p * q := Nat.mul_le_mul_left _ (by omega)
  omega
theorem tz_mul {n : Nat} (h : n ≠ 0) : ∀ k, tz (2 ^ k * n) = k + tz n
  | 0 => by simp
  | k + 1 => by
    have hp : 0 < 2 ^ k := Nat.pow_pos (by omega)
    have h0 : 2 ^ k * n ≠ 0 := Nat.mul_ne_zero (by omega) h
    have e : 2 ^ (k + 1) * n = 2 * (2 ^ k * n) := by rw [Nat.pow_succ, Nat.mul_comm (2 ^ k) 2, Nat.mul_assoc]
    rw [e, tz_even (by omega) (by omega), Nat.mul_div_cancel_left _ (by omega), tz_mul h k]
    omega
theorem tz_add {r k n : Nat} (hr : r < 2 ^ k) (h : r ≠ 0) : tz (r + 2 ^ k * n) = tz r := by
  induction k generalizing r n with
  | zero => simp at hr; omega
  | succ k ih =>
    have e : 2 ^ (k + 1) * n = 2 * (2 ^ k * n) := by rw [Nat.pow_succ, Nat.mul_comm (2 ^ k) 2, Nat.mul_assoc]
    rw [e]
    rw [Nat.pow_succ] at hr
    by_cases ho : r % 2 = 1
    · rw [tz_odd ho, tz_odd (by omega)]
    · rw [tz_even (by omega) (by omega), tz_even h (by omega), show (r + 2 * (2 ^ k * n)) / 2 = r / 2 + 2 ^ k * n from by omega, ih (by omega) (by omega)]

theorem land_bit (a b : Nat) : a &&& b = 2 * (a / 2 &&& b / 2) + (if a % 2 = 1 ∧ b % 2 = 1 then 1 else 0) := by
  have h1 : (a &&& b) / 2 = a / 2 &&& b / 2 := Nat.and_div_two
  have h2 : (a &&& b) % 2 = 1 ↔ a % 2 = 1 ∧ b % 2 = 1 := Nat.and_mod_two_eq_one
  rw [← h1]
  split
  · rename_i h; have := h2.2 h; omega
  · rename_i h
    have : ¬ (a &&& b) % 2 = 1 := fun hh => h (h2.1 hh)
    omega
theorem land_compl : ∀ (p m : Nat), m < 2 ^ p → m &&& (2 ^ p - 1 - m) = 0
  | 0, m, h => by simp at h; subst h; rfl
  | p + 1, m, h => by
    rw [Nat.pow_succ] at h ⊢
    rw [land_bit, show (2 ^ p * 2 - 1 - m) / 2 = 2 ^ p - 1 - m / 2 from by omega, land_compl p (m / 2) (by omega), if_neg (by omega)]
/-- The lowest one of a word, by its opposite. -/
theorem land_neg : ∀ (p a b : Nat), a + b = 2 ^ p → a ≠ 0 → b ≠ 0 → a &&& b = 2 ^ tz a
  | 0, a, b, h, ha, hb => by simp at h; omega
  | p + 1, a, b, h, ha, hb => by
    rw [Nat.pow_succ] at h
    rw [land_bit]
    by_cases ho : a % 2 = 1
    · rw [tz_odd ho, show b / 2 = 2 ^ p - 1 - a / 2 from by omega, land_compl p (a / 2) (by omega), if_pos (by omega)]
    · rw [tz_even ha (by omega), land_neg p (a / 2) (b / 2) (by omega) (by omega) (by omega), if_neg (by omega), Nat.pow_succ, Nat.mul_comm, Nat.add_zero]

/- What is laid place by place. -/
theorem set_fill {pre : List Int} {i k : Nat} (h : pre.length = i) (v : Int) : (pre ++ List.replicate (k + 1) 0).set i v = (pre ++ [v]) ++ List.replicate k 0 := by
  subst h
  rw [List.set_append_right _ _ (Nat.le_refl _), Nat.sub_self, List.replicate_succ, List.set_cons_zero, List.append_assoc]
  rfl
theorem getD_fill {pre : List Int} {i : Nat} (h : pre.length = i) (v : Int) (r : List Int) : (pre ++ v :: r).getD i 0 = v := by
  subst h
  simp [List.getD_eq_getElem?_getD]
theorem set_at {pre : List Int} {i : Nat} (h : pre.length = i) (v u : Int) (r : List Int) : (pre ++ v :: r).set i u = pre ++ u :: r := by
  subst h
  rw [List.set_append_right _ _ (Nat.le_refl _), Nat.sub_self, List.set_cons_zero]
theorem or_low {c n k : Nat} (h : c < 2 ^ k) : c ||| 2 ^ k * n = c + 2 ^ k * n := by
  rw [Nat.or_comm, ← Nat.two_pow_add_eq_or_of_lt h, Nat.add_comm]
theorem pow64 (k : Nat) : 18446744073709551616 ^ k = 2 ^ (64 * k) := by rw [Nat.pow_mul]
theorem len6_bits {n k : Nat} (h : n < 2 ^ k) : (M6.dg n).length ≤ k / 64 + 1 := by
  apply M6.len_dg_le
  rw [pow64]
  exact Nat.lt_of_lt_of_le h (Nat.pow_le_pow_right (by omega) (by omega))
theorem len6_bl {n k : Nat} (h : bl n ≤ 64 * k) : (M6.dg n).length ≤ k := by
  apply M6.len_dg_le
  rw [pow64, ← bl_le]
  exact h
theorem bl6_len {a : List Int} (h : M6.Dig a) {n : Nat} (hn : a.length ≤ n) : bl (M6.val a) ≤ 64 * n := by
  rw [bl_le, ← pow64]
  exact Nat.lt_of_lt_of_le (M6.val_lt h) (Nat.pow_le_pow_right (by omega) hn)
theorem nrm6_len {x : List Int} (h : M6.Nrm x) : (M6.dg (M6.val x)).length = x.length := by rw [← h]
theorem tdiv64 {n : Int} (h : 0 ≤ n) : n.tdiv 64 = n / 64 := Int.tdiv_eq_ediv_of_nonneg h
theorem tmod64 {n : Int} (h : 0 ≤ n) : n.tmod 64 = n % 64 := Int.tmod_eq_emod_of_nonneg h
theorem pow_split6 (n : Nat) : 2 ^ n = 18446744073709551616 ^ (n / 64) * 2 ^ (n % 64) := by
  rw [pow64, ← Nat.pow_add]; congr 1; omega
/-- A word, shifted up: what goes over, what stays. -/
theorem shl_parts (x k : Nat) (h : k < 64) : x * 2 ^ k = 18446744073709551616 * (x / 2 ^ (64 - k)) + x * 2 ^ k % 18446744073709551616 := by
  have e : (18446744073709551616 : Nat) = 2 ^ (64 - k) * 2 ^ k := by rw [← Nat.pow_add, show 64 - k + k = 64 from by omega]
  have h1 : x * 2 ^ k / 18446744073709551616 = x / 2 ^ (64 - k) := by
    rw [e, Nat.mul_div_mul_right _ _ (Nat.pow_pos (by omega))]
  have := Nat.div_add_mod (x * 2 ^ k) 18446744073709551616
  rw [h1] at this
  omega
theorem shl_low (x k : Nat) (h : k < 64) : x * 2 ^ k % 18446744073709551616 = 2 ^ k * (x % 2 ^ (64 - k)) := by
  have e : (18446744073709551616 : Nat) = 2 ^ (64 - k) * 2 ^ k := by rw [← Nat.pow_add, show 64 - k + k = 64 from by omega]
  rw [e, Nat.mul_mod_mul_right, Nat.mul_comm]
end Go.Proofs.YtknafopmgaolmaaGreatDoor.M

/- The table of types of this program, and what all functions' texts begin with. -/
namespace Go.Proofs.YtknafopmgaolmaaGreatDoor.W
open Go Go.Proofs.YtknafopmgaolmaaGreatDoor.AI
noncomputable def tbl : List (Nat × TI) := [
  (2, { size := nat_lit 1, bytes := nat_lit 8, zero := [Value.int IntKind.i64 (Int.ofNat (nat_lit 0))], kind := TK.int IntKind.i64 }),
  (3, { size := nat_lit 1, bytes := nat_lit 8, zero := [Value.int IntKind.i64 (Int.ofNat (nat_lit 0))], kind := TK.int IntKind.i64 }),
  (4, { size := nat_lit 1, bytes := nat_lit 1, zero := [Value.bool false], kind := TK.bool }),
  (5, { size := nat_lit 1, bytes := nat_lit 1, zero := [Value.int IntKind.u8 (Int.ofNat (nat_lit 0))], kind := TK.int IntKind.u8 }),
  (6, { size := nat_lit 1, bytes := nat_lit 1, zero := [Value.int IntKind.u8 (Int.ofNat (nat_lit 0))], kind := TK.int IntKind.u8 }),
  (7, { size := nat_lit 4, bytes := nat_lit 24, zero := [Value.int IntKind.i64 (Int.ofNat (nat_lit 0)), Value.int IntKind.i64 (Int.ofNat (nat_lit 0)), Value.bool false, Value.int IntKind.u8 (Int.ofNat (nat_lit 0))], kind := TK.struct [(nat_lit 0, nat_lit 1, false), (nat_lit 1, nat_lit 1, false), (nat_lit 2, nat_lit 1, false), (nat_lit 3, nat_lit 1, false)] }),
  (8, { size := nat_lit 4, bytes := nat_lit 24, zero := [Value.int IntKind.i64 (Int.ofNat (nat_lit 0)), Value.int IntKind.i64 (Int.ofNat (nat_lit 0)), Value.bool false, Value.int IntKind.u8 (Int.ofNat (nat_lit 0))], kind := TK.struct [(nat_lit 0, nat_lit 1, false), (nat_lit 1, nat_lit 1, false), (nat_lit 2, nat_lit 1, false), (nat_lit 3, nat_lit 1, false)] }),
  (9, { size := 1, bytes := 16, zero := [Value.string ByteArray.empty], kind := TK.str }),
  (10, { size := 1, bytes := 16, zero := [Value.string ByteArray.empty], kind := TK.str }),
  (11, { size := 1, bytes := 16, zero := [Value.string ByteArray.empty], kind := TK.str }),
  (12, { size := nat_lit 1, bytes := nat_lit 8, zero := [Value.int IntKind.u64 (Int.ofNat (nat_lit 0))], kind := TK.int IntKind.u64 }),
  (18, { size := nat_lit 1, bytes := nat_lit 8, zero := [Value.pointer none], kind := TK.struct [(nat_lit 0, nat_lit 1, false)] }),
  (19, { size := nat_lit 1, bytes := nat_lit 8, zero := [Value.pointer none], kind := TK.struct [(nat_lit 0, nat_lit 1, false)] }),
  (21, { size := nat_lit 1, bytes := nat_lit 4, zero := [Value.int IntKind.i32 (Int.ofNat (nat_lit 0))], kind := TK.int IntKind.i32 }),
  (22, { size := nat_lit 1, bytes := nat_lit 8, zero := [Value.int IntKind.i64 (Int.ofNat (nat_lit 0))], kind := TK.int IntKind.i64 }),
  (23, { size := nat_lit 1, bytes := nat_lit 8, zero := [Value.int IntKind.u64 (Int.ofNat (nat_lit 0))], kind := TK.int IntKind.u64 }),
  (26, { size := nat_lit 4, bytes := nat_lit 32, zero := [Value.int IntKind.i64 (Int.ofNat (nat_lit 0)), Value.int IntKind.i64 (Int.ofNat (nat_lit 0)), Value.int IntKind.u64 (Int.ofNat (nat_lit 0)), Value.int IntKind.i64 (Int.ofNat (nat_lit 0))], kind := TK.struct [(nat_lit 0, nat_lit 1, false), (nat_lit 1, nat_lit 1, false), (nat_lit 2, nat_lit 1, false), (nat_lit 3, nat_lit 1, false)] }),
  (27, { size := nat_lit 4, bytes := nat_lit 32, zero := [Value.int IntKind.i64 (Int.ofNat (nat_lit 0)), Value.int IntKind.i64 (Int.ofNat (nat_lit 0)), Value.int IntKind.u64 (Int.ofNat (nat_lit 0)), Value.int IntKind.i64 (Int.ofNat (nat_lit 0))], kind := TK.struct [(nat_lit 0, nat_lit 1, false), (nat_lit 1, nat_lit 1, false), (nat_lit 2, nat_lit 1, false), (nat_lit 3, nat_lit 1, false)] }),
  (30, { size := nat_lit 1, bytes := nat_lit 24, zero := [Value.slice none (nat_lit 0) (nat_lit 0)], kind := TK.slice (nat_lit 27) }),
  (31, { size := nat_lit 1, bytes := nat_lit 24, zero := [Value.slice none (nat_lit 0) (nat_lit 0)], kind := TK.slice (nat_lit 23) }),
  (32, { size := nat_lit 2, bytes := nat_lit 32, zero := [Value.bool false, Value.slice none (nat_lit 0) (nat_lit 0)], kind := TK.struct [(nat_lit 0, nat_lit 1, false), (nat_lit 1, nat_lit 1, false)] }),
  (33, { size := nat_lit 2, bytes := nat_lit 32, zero := [Value.bool false, Value.slice none (nat_lit 0) (nat_lit 0)], kind := TK.struct [(nat_lit 0, nat_lit 1, false), (nat_lit 1, nat_lit 1, false)] }),
  (34, { size := nat_lit 3, bytes := nat_lit 40, zero := [Value.bool false, Value.slice none (nat_lit 0) (nat_lit 0), Value.int IntKind.i64 (Int.ofNat (nat_lit 0))], kind := TK.struct [(nat_lit 0, nat_lit 2, true), (nat_lit 2, nat_lit 1, false)] }),
  (35, { size := nat_lit 3, bytes := nat_lit 40, zero := [Value.bool false, Value.slice none (nat_lit 0) (nat_lit 0), Value.int IntKind.i64 (Int.ofNat (nat_lit 0))], kind := TK.struct [(nat_lit 0, nat_lit 2, true), (nat_lit 2, nat_lit 1, false)] }),
  (36, { size := nat_lit 6, bytes := nat_lit 80, zero := [Value.bool false, Value.slice none (nat_lit 0) (nat_lit 0), Value.int IntKind.i64 (Int.ofNat (nat_lit 0)), Value.bool false, Value.slice none (nat_lit 0) (nat_lit 0), Value.int IntKind.i64 (Int.ofNat (nat_lit 0))], kind := TK.struct [(nat_lit 0, nat_lit 3, true), (nat_lit 3, nat_lit 3, true)] }),
  (37, { size := nat_lit 6, bytes := nat_lit 80, zero := [Value.bool false, Value.slice none (nat_lit 0) (nat_lit 0), Value.int IntKind.i64 (Int.ofNat (nat_lit 0)), Value.bool false, Value.slice none (nat_lit 0) (nat_lit 0), Value.int IntKind.i64 (Int.ofNat (nat_lit 0))], kind := TK.struct [(nat_lit 0, nat_lit 3, true), (nat_lit 3, nat_lit 3, true)] }),
  (38, { size := nat_lit 1, bytes := nat_lit 8, zero := [Value.int IntKind.i64 (Int.ofNat (nat_lit 0))], kind := TK.int IntKind.i64 }),
  (45, { size := nat_lit 1, bytes := nat_lit 24, zero := [Value.slice none (nat_lit 0) (nat_lit 0)], kind := TK.slice (nat_lit 31) }),
  (59, { size := nat_lit 1, bytes := nat_lit 24, zero := [Value.slice none (nat_lit 0) (nat_lit 0)], kind := TK.slice (nat_lit 61) }),
  (60, { size := nat_lit 4, bytes := nat_lit 32, zero := [Value.int IntKind.i64 (Int.ofNat (nat_lit 0)), Value.int IntKind.i64 (Int.ofNat (nat_lit 0)), Value.int IntKind.u64 (Int.ofNat (nat_lit 0)), Value.int IntKind.i64 (Int.ofNat (nat_lit 0))], kind := TK.struct [(nat_lit 0, nat_lit 1, false), (nat_lit 1, nat_lit 1, false), (nat_lit 2, nat_lit 1, false), (nat_lit 3, nat_lit 1, false)] }),
  (61, { size := nat_lit 4, bytes := nat_lit 32, zero := [Value.int IntKind.i64 (Int.ofNat (nat_lit 0)), Value.int IntKind.i64 (Int.ofNat (nat_lit 0)), Value.int IntKind.u64 (Int.ofNat (nat_lit 0)), Value.int IntKind.i64 (Int.ofNat (nat_lit 0))], kind := TK.struct [(nat_lit 0, nat_lit 1, false), (nat_lit 1, nat_lit 1, false), (nat_lit 2, nat_lit 1, false), (nat_lit 3, nat_lit 1, false)] }),
  (70, { size := nat_lit 1, bytes := nat_lit 8, zero := [Value.int IntKind.i64 (Int.ofNat (nat_lit 0))], kind := TK.int IntKind.i64 }),
  (93, { size := nat_lit 1, bytes := nat_lit 24, zero := [Value.slice none (nat_lit 0) (nat_lit 0)], kind := TK.slice (nat_lit 163) }),
  (96, { size := nat_lit 2, bytes := nat_lit 32, zero := [Value.bool false, Value.slice none (nat_lit 0) (nat_lit 0)], kind := TK.struct [(nat_lit 0, nat_lit 1, false), (nat_lit 1, nat_lit 1, false)] }),
  (97, { size := nat_lit 2, bytes := nat_lit 32, zero := [Value.bool false, Value.slice none (nat_lit 0) (nat_lit 0)], kind := TK.struct [(nat_lit 0, nat_lit 1, false), (nat_lit 1, nat_lit 1, false)] }),
  (114, { size := nat_lit 1, bytes := nat_lit 24, zero := [Value.slice none (nat_lit 0) (nat_lit 0)], kind := TK.slice (nat_lit 35) }),
  (119, { size := nat_lit 1, bytes := nat_lit 24, zero := [Value.slice none (nat_lit 0) (nat_lit 0)], kind := TK.slice (nat_lit 37) }),
  (121, { size := nat_lit 2, bytes := nat_lit 16, zero := [Value.int IntKind.i64 (Int.ofNat (nat_lit 0)), Value.bool false], kind := TK.struct [(nat_lit 0, nat_lit 1, false), (nat_lit 1, nat_lit 1, false)] }),
  (122, { size := nat_lit 2, bytes := nat_lit 16, zero := [Value.int IntKind.i64 (Int.ofNat (nat_lit 0)), Value.bool false], kind := TK.struct [(nat_lit 0, nat_lit 1, false), (nat_lit 1, nat_lit 1, false)] }),
  (130, { size := nat_lit 4, bytes := nat_lit 32, zero := [Value.int IntKind.i64 (Int.ofNat (nat_lit 0)), Value.int IntKind.i64 (Int.ofNat (nat_lit 0)), Value.int IntKind.i64 (Int.ofNat (nat_lit 0)), Value.int IntKind.u64 (Int.ofNat (nat_lit 0))], kind := TK.struct [(nat_lit 0, nat_lit 1, false), (nat_lit 1, nat_lit 1, false), (nat_lit 2, nat_lit 1, false), (nat_lit 3, nat_lit 1, false)] }),
  (131, { size := nat_lit 4, bytes := nat_lit 32, zero := [Value.int IntKind.i64 (Int.ofNat (nat_lit 0)), Value.int IntKind.i64 (Int.ofNat (nat_lit 0)), Value.int IntKind.i64 (Int.ofNat (nat_lit 0)), Value.int IntKind.u64 (Int.ofNat (nat_lit 0))], kind := TK.struct [(nat_lit 0, nat_lit 1, false), (nat_lit 1, nat_lit 1, false), (nat_lit 2, nat_lit 1, false), (nat_lit 3, nat_lit 1, false)] }),
  (140, { size := nat_lit 3, bytes := nat_lit 24, zero := [Value.int IntKind.i64 (Int.ofNat (nat_lit 0)), Value.int IntKind.i64 (Int.ofNat (nat_lit 0)), Value.int IntKind.i64 (Int.ofNat (nat_lit 0))], kind := TK.struct [(nat_lit 0, nat_lit 1, false), (nat_lit 1, nat_lit 1, false), (nat_lit 2, nat_lit 1, false)] }),
  (141, { size := nat_lit 3, bytes := nat_lit 24, zero := [Value.int IntKind.i64 (Int.ofNat (nat_lit 0)), Value.int IntKind.i64 (Int.ofNat (nat_lit 0)), Value.int IntKind.i64 (Int.ofNat (nat_lit 0))], kind := TK.struct [(nat_lit 0, nat_lit 1, false), (nat_lit 1, nat_lit 1, false), (nat_lit 2, nat_lit 1, false)] }),
  (147, { size := nat_lit 1, bytes := nat_lit 8, zero := [Value.int IntKind.i64 (Int.ofNat (nat_lit 0))], kind := TK.int IntKind.i64 }),
  (154, { size := nat_lit 5, bytes := nat_lit 72, zero := [Value.bool false, Value.slice none (nat_lit 0) (nat_lit 0), Value.bool false, Value.slice none (nat_lit 0) (nat_lit 0), Value.int IntKind.i64 (Int.ofNat (nat_lit 0))], kind := TK.struct [(nat_lit 0, nat_lit 2, true), (nat_lit 2, nat_lit 2, true), (nat_lit 4, nat_lit 1, false)] }),
  (155, { size := nat_lit 5, bytes := nat_lit 72, zero := [Value.bool false, Value.slice none (nat_lit 0) (nat_lit 0), Value.bool false, Value.slice none (nat_lit 0) (nat_lit 0), Value.int IntKind.i64 (Int.ofNat (nat_lit 0))], kind := TK.struct [(nat_lit 0, nat_lit 2, true), (nat_lit 2, nat_lit 2, true), (nat_lit 4, nat_lit 1, false)] }),
  (163, { size := nat_lit 1, bytes := nat_lit 4, zero := [Value.int IntKind.u32 (Int.ofNat (nat_lit 0))], kind := TK.int IntKind.u32 }),
  (164, { size := nat_lit 1, bytes := nat_lit 8, zero := [Value.int IntKind.u64 (Int.ofNat (nat_lit 0))], kind := TK.int IntKind.u64 }),
  (177, { size := nat_lit 1, bytes := nat_lit 8, zero := [Value.int IntKind.i64 (Int.ofNat (nat_lit 0))], kind := TK.int IntKind.i64 }),
  (216, { size := nat_lit 1, bytes := nat_lit 8, zero := [Value.int IntKind.i64 (Int.ofNat (nat_lit 0))], kind := TK.int IntKind.i64 }),
  (237, { size := nat_lit 64, bytes := nat_lit 64, zero := [Value.int IntKind.u8 (Int.ofNat (nat_lit 0)), Value.int IntKind.u8 (Int.ofNat (nat_lit 0)), Value.int IntKind.u8 (Int.ofNat (nat_lit 0)), Value.int IntKind.u8 (Int.ofNat (nat_lit 0)), Value.int IntKind.u8 (Int.ofNat (nat_lit 0)), Value.int IntKind.u8 (Int.ofNat (nat_lit 0)), Value.int IntKind.u8 (Int.ofNat (nat_lit 0)), Value.int IntKind.u8 (Int.ofNat (nat_lit 0)), Value.int IntKind.u8 (Int.ofNat (nat_lit 0)), Value.int IntKind.u8 (Int.ofNat (nat_lit 0)), Value.int IntKind.u8 (Int.ofNat (nat_lit 0)), Value.int IntKind.u8 (Int.ofNat (nat_lit 0)), Value.int IntKind.u8 (Int.ofNat (nat_lit 0)), Value.int IntKind.u8 (Int.ofNat (nat_lit 0)), Value.int IntKind.u8 (Int.ofNat (nat_lit 0)), Value.int IntKind.u8 (Int.ofNat (nat_lit 0)), Value.int IntKind.u8 (Int.ofNat (nat_lit 0)), Value.int IntKind.u8 (Int.ofNat (nat_lit 0)), Value.int IntKind.u8 (Int.ofNat (nat_lit 0)), Value.int IntKind.u8 (Int.ofNat (nat_lit 0)), Value.int IntKind.u8 (Int.ofNat (nat_lit 0)), Value.int IntKind.u8 (Int.ofNat (nat_lit 0)), Value.int IntKind.u8 (Int.ofNat (nat_lit 0)), Value.int IntKind.u8 (Int.ofNat (nat_lit 0)), Value.int IntKind.u8 (Int.ofNat (nat_lit 0)), Value.int IntKind.u8 (Int.ofNat (nat_lit 0)), Value.int IntKind.u8 (Int.ofNat (nat_lit 0)), Value.int IntKind.u8 (Int.ofNat (nat_lit 0)), Value.int IntKind.u8 (Int.ofNat (nat_lit 0)), Value.int IntKind.u8 (Int.ofNat (nat_lit 0)), Value.int IntKind.u8 (Int.ofNat (nat_lit 0)), Value.int IntKind.u8 (Int.ofNat (nat_lit 0)), Value.int IntKind.u8 (Int.ofNat (nat_lit 0)), Value.int IntKind.u8 (Int.ofNat (nat_lit 0)), Value.int IntKind.u8 (Int.ofNat (nat_lit 0)), Value.int IntKind.u8 (Int.ofNat (nat_lit 0)), Value.int IntKind.u8 (Int.ofNat (nat_lit 0)), Value.int IntKind.u8 (Int.ofNat (nat_lit 0)), Value.int IntKind.u8 (Int.ofNat (nat_lit 0)), Value.int IntKind.u8 (Int.ofNat (nat_lit 0)), Value.int IntKind.u8 (Int.ofNat (nat_lit 0)), Value.int IntKind.u8 (Int.ofNat (nat_lit 0)), Value.int IntKind.u8 (Int.ofNat (nat_lit 0)), Value.int IntKind.u8 (Int.ofNat (nat_lit 0)), Value.int IntKind.u8 (Int.ofNat (nat_lit 0)), Value.int IntKind.u8 (Int.ofNat (nat_lit 0)), Value.int IntKind.u8 (Int.ofNat (nat_lit 0)), Value.int IntKind.u8 (Int.ofNat (nat_lit 0)), Value.int IntKind.u8 (Int.ofNat (nat_lit 0)), Value.int IntKind.u8 (Int.ofNat (nat_lit 0)), Value.int IntKind.u8 (Int.ofNat (nat_lit 0)), Value.int IntKind.u8 (Int.ofNat (nat_lit 0)), Value.int IntKind.u8 (Int.ofNat (nat_lit 0)), Value.int IntKind.u8 (Int.ofNat (nat_lit 0)), Value.int IntKind.u8 (Int.ofNat (nat_lit 0)), Value.int IntKind.u8 (Int.ofNat (nat_lit 0)), Value.int IntKind.u8 (Int.ofNat (nat_lit 0)), Value.int IntKind.u8 (Int.ofNat (nat_lit 0)), Value.int IntKind.u8 (Int.ofNat (nat_lit 0)), Value.int IntKind.u8 (Int.ofNat (nat_lit 0)), Value.int IntKind.u8 (Int.ofNat (nat_lit 0)), Value.int IntKind.u8 (Int.ofNat (nat_lit 0)), Value.int IntKind.u8 (Int.ofNat (nat_lit 0)), Value.int IntKind.u8 (Int.ofNat (nat_lit 0))], kind := TK.arr (nat_lit 64) (nat_lit 1) false }),
  (240, { size := nat_lit 6, bytes := nat_lit 48, zero := [Value.int IntKind.u64 (Int.ofNat (nat_lit 0)), Value.int IntKind.i64 (Int.ofNat (nat_lit 0)), Value.int IntKind.i64 (Int.ofNat (nat_lit 0)), Value.int IntKind.i64 (Int.ofNat (nat_lit 0)), Value.int IntKind.u64 (Int.ofNat (nat_lit 0)), Value.int IntKind.u64 (Int.ofNat (nat_lit 0))], kind := TK.struct [(nat_lit 0, nat_lit 1, false), (nat_lit 1, nat_lit 1, false), (nat_lit 2, nat_lit 1, false), (nat_lit 3, nat_lit 1, false), (nat_lit 4, nat_lit 1, false), (nat_lit 5, nat_lit 1, false)] }),
  (241, { size := nat_lit 6, bytes := nat_lit 48, zero := [Value.int IntKind.u64 (Int.ofNat (nat_lit 0)), Value.int IntKind.i64 (Int.ofNat (nat_lit 0)), Value.int IntKind.i64 (Int.ofNat (nat_lit 0)), Value.int IntKind.i64 (Int.ofNat (nat_lit 0)), Value.int IntKind.u64 (Int.ofNat (nat_lit 0)), Value.int IntKind.u64 (Int.ofNat (nat_lit 0))], kind := TK.struct [(nat_lit 0, nat_lit 1, false), (nat_lit 1, nat_lit 1, false), (nat_lit 2, nat_lit 1, false), (nat_lit 3, nat_lit 1, false), (nat_lit 4, nat_lit 1, false), (nat_lit 5, nat_lit 1, false)] }),
  (277, { size := nat_lit 4, bytes := nat_lit 96, zero := [Value.slice none (nat_lit 0) (nat_lit 0), Value.slice none (nat_lit 0) (nat_lit 0), Value.slice none (nat_lit 0) (nat_lit 0), Value.slice none (nat_lit 0) (nat_lit 0)], kind := TK.arr (nat_lit 4) (nat_lit 1) false }),
  (295, { size := nat_lit 0, bytes := nat_lit 0, zero := [], kind := TK.arr (nat_lit 0) (nat_lit 1) false }),
  (296, { size := nat_lit 0, bytes := nat_lit 0, zero := [], kind := TK.struct [(nat_lit 0, nat_lit 0, true)] }),
  (297, { size := nat_lit 0, bytes := nat_lit 0, zero := [], kind := TK.struct [(nat_lit 0, nat_lit 0, true)] }),
  (299, { size := nat_lit 1, bytes := nat_lit 1, zero := [Value.int IntKind.u8 (Int.ofNat (nat_lit 0))], kind := TK.int IntKind.u8 }),
  (300, { size := nat_lit 1, bytes := nat_lit 1, zero := [Value.int IntKind.u8 (Int.ofNat (nat_lit 0))], kind := TK.int IntKind.u8 }),
  (303, { size := nat_lit 1, bytes := nat_lit 4, zero := [Value.int IntKind.i32 (Int.ofNat (nat_lit 0))], kind := TK.int IntKind.i32 }),
  (304, { size := nat_lit 1, bytes := nat_lit 4, zero := [Value.int IntKind.i32 (Int.ofNat (nat_lit 0))], kind := TK.int IntKind.i32 }),
  (305, { size := nat_lit 11, bytes := nat_lit 48, zero := [Value.int IntKind.u64 (Int.ofNat (nat_lit 0)), Value.int IntKind.u64 (Int.ofNat (nat_lit 0)), Value.int IntKind.u32 (Int.ofNat (nat_lit 0)), Value.int IntKind.u8 (Int.ofNat (nat_lit 0)), Value.int IntKind.u8 (Int.ofNat (nat_lit 0)), Value.int IntKind.u8 (Int.ofNat (nat_lit 0)), Value.int IntKind.u8 (Int.ofNat (nat_lit 0)), Value.nilFunc, Value.pointer none, Value.int IntKind.i32 (Int.ofNat (nat_lit 0)), Value.int IntKind.i32 (Int.ofNat (nat_lit 0))], kind := TK.struct [(nat_lit 0, nat_lit 1, false), (nat_lit 1, nat_lit 1, false), (nat_lit 2, nat_lit 1, false), (nat_lit 3, nat_lit 1, false), (nat_lit 4, nat_lit 1, false), (nat_lit 5, nat_lit 1, false), (nat_lit 6, nat_lit 1, false), (nat_lit 7, nat_lit 1, false), (nat_lit 8, nat_lit 1, false), (nat_lit 9, nat_lit 1, false), (nat_lit 10, nat_lit 1, false)] }),
  (306, { size := nat_lit 11, bytes := nat_lit 48, zero := [Value.int IntKind.u64 (Int.ofNat (nat_lit 0)), Value.int IntKind.u64 (Int.ofNat (nat_lit 0)), Value.int IntKind.u32 (Int.ofNat (nat_lit 0)), Value.int IntKind.u8 (Int.ofNat (nat_lit 0)), Value.int IntKind.u8 (Int.ofNat (nat_lit 0)), Value.int IntKind.u8 (Int.ofNat (nat_lit 0)), Value.int IntKind.u8 (Int.ofNat (nat_lit 0)), Value.nilFunc, Value.pointer none, Value.int IntKind.i32 (Int.ofNat (nat_lit 0)), Value.int IntKind.i32 (Int.ofNat (nat_lit 0))], kind := TK.struct [(nat_lit 0, nat_lit 1, false), (nat_lit 1, nat_lit 1, false), (nat_lit 2, nat_lit 1, false), (nat_lit 3, nat_lit 1, false), (nat_lit 4, nat_lit 1, false), (nat_lit 5, nat_lit 1, false), (nat_lit 6, nat_lit 1, false), (nat_lit 7, nat_lit 1, false), (nat_lit 8, nat_lit 1, false), (nat_lit 9, nat_lit 1, false), (nat_lit 10, nat_lit 1, false)] })]
theorem ty_ok : TyOk Tryz.prog (tlook tbl) := tyOk_of tbl (by kernel_rfl) (by kernel_rfl) (by kernel_rfl)
def ext : FuncId → List Value → Option (Prop × List Value) := (extIs 208 gSub (extIs 206 gAdd extNone))
theorem ext_ok : ExtOk Tryz.prog ext := (extIs_ok (extFn_of (P := Tryz.prog) (f := 208) (fn := Tryz.f208) (e := sub64Entry) Tryz.func208 rfl rfl (by kernel_rfl) (by kernel_rfl)) gSub_ok (extIs_ok (extFn_of (P := Tryz.prog) (f := 206) (fn := Tryz.f206) (e := add64Entry) Tryz.func206 rfl rfl (by kernel_rfl) (by kernel_rfl)) gAdd_ok extNone_ok))
def globs (g : Nat) : Option (IntKind × List Int) := bif Nat.beq g 0 then some (.u8, [0, 1, 56, 2, 57, 49, 28, 3, 61, 58, 42, 50, 38, 29, 17, 4, 62, 47, 59, 36, 45, 43, 51, 22, 53, 39, 33, 30, 24, 18, 12, 5, 63, 55, 48, 27, 60, 41, 37, 16, 46, 35, 44, 21, 52, 32, 23, 11, 54, 26, 40, 15, 34, 20, 31, 10, 25, 14, 19, 9, 13, 8, 7, 6]) else (none)
noncomputable def base : Env := { T := tlook tbl, C := fun _ _ => none, ext := ext, glob := globs, nt := 0, own := [], keep := fun _ => [], roll := fun _ => none, cut := fun _ => none }
theorem mixed : Tryz.prog.follows .mixedOrders = true := by kernel_rfl
abbrev tU32 : TypeId := 163
abbrev tU64 : TypeId := 23
abbrev tU8 : TypeId := 5
end Go.Proofs.YtknafopmgaolmaaGreatDoor.W

/- Whole numbers with a sign to the base 2^64, as they lie. No program is in sight. And contracts of five parameters. -/
namespace Go.Proofs.YtknafopmgaolmaaGreatDoor.AI
open Go Go.RowKit
theorem Contract.of5 {P : Program} {G : Nat → Option (IntKind × List Int)} {f : FuncId} {d d' e e' g g' k k' l l' : D} {rs : List D} (h : Contract P G f [d', e', g', k', l'] rs) (hd : DLe d d') (he : DLe e e') (hg : DLe g g') (hk : DLe k k') (hl : DLe l l') : Contract P G f [d, e, g, k, l] rs :=
  h.of rfl fun i x x' hx hx' => by
    match i with
    | 0 => simp at hx hx'; subst hx; subst hx'; exact hd
    | 1 => simp at hx hx'; subst hx; subst hx'; exact he
    | 2 => simp at hx hx'; subst hx; subst hx'; exact hg
    | 3 => simp at hx hx'; subst hx; subst hx'; exact hk
    | 4 => simp at hx hx'; subst hx; subst hx'; exact hl
    | i + 5 => simp at hx
def orc5 {α β γ δ ε : Type} (p : Par α) (q : Par β) (r : Par γ) (s : Par δ) (t : Par ε) (f : α → β → γ → δ → ε → Prop × List D) : Orc
  | [a, b, c, d, e] => match p.get a, q.get b, r.get c, s.get d, t.get e with
    | some x, some y, some z, some u, some v => some (f x y z u v)
    | _, _, _, _, _ => none
  | _ => none
variable {P : Program} {E : Env} {f : FuncId} {fn : Func} {c : Code}
theorem FnOk.ok5 {α β γ δ ε : Type} (h : FnOk P E f fn c) {p : Par α} {p' : Par β} {p'' : Par γ} {p3 : Par δ} {p4 : Par ε} {g : α → β → γ → δ → ε → Prop × List D} (hn : Nat.ble 5 fn.ntmps = true) (hs : ∀ x y z u v, (g x y z u v).1 → evalFn E fn c [p.put x, p'.put y, p''.put z, p3.put u, p4.put v] = some (g x y z u v).2) : OrcOk P E.glob f (orc5 p p' p'' p3 p4 g) := by
  intro ds q rs hd hg
  unfold orc5 at hd
  split at hd
  · split at hd
    · rename_i x y z u v hx hy hz hu hv
      have hd := Option.some.inj hd
      have e1 : q = (g x y z u v).1 := by rw [hd]
      have e2 : rs = (g x y z u v).2 := by rw [hd]
      subst e1; subst e2
      exact ⟨(fn_contract (ds := [p.put x, p'.put y, p''.put z, p3.put u, p4.put v]) h.ty h.calls h.mix h.fnc h.body h.nt h.io (Nat.le_of_ble_eq_true hn) (hs x y z u v hg)).of5 (p.le hx) (p'.le hy) (p''.le hz) (p3.le hu) (p4.le hv), h.has⟩
    · cases hd
  · cases hd

theorem FnOk.wk5 {α β γ δ ε : Type} (h : FnOk P E f fn c) {p : Par α} {p' : Par β} {p'' : Par γ} {p3 : Par δ} {p4 : Par ε} {g : α → β → γ → δ → ε → Prop × List D} (hn : Nat.ble 5 fn.ntmps = true) (hs : ∀ x y z u v, (g x y z u v).1 → ∃ rs, evalFn E fn c [p.put x, p'.put y, p''.put z, p3.put u, p4.put v] = some rs ∧ RsLe rs (g x y z u v).2) : OrcOk P E.glob f (orc5 p p' p'' p3 p4 g) := by
  intro ds q rs hd hg
  unfold orc5 at hd
  split at hd
  · split at hd
    · rename_i x y z u v hx hy hz hu hv
      have hd := Option.some.inj hd
      have e1 : q = (g x y z u v).1 := by rw [hd]
      have e2 : rs = (g x y z u v).2 := by rw [hd]
      subst e1; subst e2
      obtain ⟨rs2, he, hle⟩ := hs x y z u v hg
      exact ⟨((fn_contract (ds := [p.put x, p'.put y, p''.put z, p3.put u, p4.put v]) h.ty h.calls h.mix h.fnc h.body h.nt h.io (Nat.le_of_ble_eq_true hn) he).of5 (p.le hx) (p'.le hy) (p''.le hz) (p3.le hu) (p4.le hv)).less hle, h.has⟩
    · cases hd
  · cases hd
end Go.Proofs.YtknafopmgaolmaaGreatDoor.AI
namespace Go.Proofs.YtknafopmgaolmaaGreatDoor.M
open Go Go.Proofs.YtknafopmgaolmaaGreatDoor.AI

def wv (x : Bool × List Int) : Int := zs x.1 (M6.val x.2)
/-- In form. -/
def Wok (x : Bool × List Int) : Prop := M6.Nrm x.2 ∧ (x.1 = true → M6.val x.2 ≠ 0) ∧ x.2.length ≤ 8192
def wD (z : Int) : D := .agg [.sc (.bool (isNeg z)), .ints .u64 (M6.dg z.natAbs)]
/-- Does it fit? -/
def fit (n : Nat) : Bool := decide (bl n ≤ 524288)
theorem wv_abs (x : Bool × List Int) : (wv x).natAbs = M6.val x.2 := zs_abs _ _
theorem wv_neg {x : Bool × List Int} (h : x.1 = true) : wv x = -(M6.val x.2 : Int) := by unfold wv zs; rw [h]; rfl
theorem wv_pos {x : Bool × List Int} (h : x.1 = false) : wv x = (M6.val x.2 : Int) := by unfold wv zs; rw [h]; rfl
theorem Wok.cells {x : Bool × List Int} (h : Wok x) : isNeg (wv x) = x.1 ∧ M6.dg (wv x).natAbs = x.2 := by
  obtain ⟨h1, h2, h3⟩ := h
  unfold wv
  rw [zs_neg, zs_abs, ← h1]
  refine ⟨?_, rfl⟩
  cases hx : x.1 with
  | false => rfl
  | true => rw [decide_eq_true (h2 hx)]; rfl
theorem Wok.len {x : Bool × List Int} (h : Wok x) : x.2.length ≤ 8192 := h.2.2
theorem wD_zs (b : Bool) (n : Nat) : wD (zs b n) = .agg [.sc (.bool (b && decide (n ≠ 0))), .ints .u64 (M6.dg n)] := by
  unfold wD
  rw [zs_neg, zs_abs]
theorem wD_wv {x : Bool × List Int} (h : Wok x) : wD (wv x) = .agg [.sc (.bool x.1), .ints .u64 x.2] := by
  unfold wD
  rw [h.cells.1, h.cells.2]
theorem wv_wD (z : Int) : wv (isNeg z, M6.dg z.natAbs) = z := by
  unfold wv zs
  simp only [M6.val_dg]
  cases h : isNeg z with
  | true => have := isNeg_iff.1 h; simp only [cond_true]; omega
  | false => have := isNeg_false.1 h; simp only [cond_false]; omega
theorem wok_wD {z : Int} (h : bl z.natAbs ≤ 524288) : Wok (isNeg z, M6.dg z.natAbs) := by
  refine ⟨M6.nrm_dg _, fun hn => ?_, len6_bl (k := 8192) (by omega)⟩
  rw [M6.val_dg]
  have := isNeg_iff.1 hn
  omega
theorem bl_of_len6 {n : Nat} (h : (M6.dg n).length ≤ 8192) : bl n ≤ 524288 := by
  have := bl6_len (M6.dig_dg n) h
  rw [M6.val_dg] at this
  omega
theorem Wok.bl {x : Bool × List Int} (h : Wok x) : bl (M6.val x.2) ≤ 524288 := by
  have := bl6_len h.1.dig h.len
  omega
/-- A number and the word for 'too large'. -/
def wE (ok : Bool) (z : Int) : List D := [wD (bif ok then z else 0), .s (.sc (.int .i64 (bif ok then 0 else 5)))]
theorem wE_told (neg ok : Bool) (n : Nat) : [D.agg [.sc (.bool (isNeg (bif (bif ok then (0 : Int) else 5) == 0 then zs neg (M6.val (bif ok then M6.dg n else [])) else 0))), .ints .u64 (M6.dg (bif (bif ok then (0 : Int) else 5) == 0 then zs neg (M6.val (bif ok then M6.dg n else [])) else 0).natAbs)], D.s (.sc (.int .i64 (bif ok then 0 else 5)))] = wE ok (zs neg n) := by
  cases ok with
  | true => rw [cond_true, cond_true, show ((0 : Int) == 0) = true from rfl, cond_true, M6.val_dg]; rfl
  | false => rfl
theorem nrm_bif {ok : Bool} {n : Nat} (h : ok = true → bl n ≤ 524288) : M6.Nrm (bif ok then M6.dg n else []) ∧ (bif ok then M6.dg n else []).length ≤ 1099511627776 := by
  cases ok with
  | true => have := len6_bl (n := n) (k := 8192) (by have := h rfl; omega); exact ⟨M6.nrm_dg _, by rw [cond_true]; omega⟩
  | false => exact ⟨M6.nrm_nil, by simp⟩
theorem len_fit {n : Nat} : decide ((M6.dg n).length ≤ 8192) = fit n := by
  unfold fit
  by_cases h : bl n ≤ 524288
  · rw [decide_eq_true h, decide_eq_true (len6_bl (k := 8192) (by omega))]
  · rw [decide_eq_false h, decide_eq_false (fun hl => h (bl_of_len6 hl))]
theorem fit_le {n : Nat} (h : fit n = true) : bl n ≤ 524288 := of_decide_eq_true h
end Go.Proofs.YtknafopmgaolmaaGreatDoor.M

/- Numbers m * 2^e, as they lie. No program is in sight. -/
namespace Go.Proofs.YtknafopmgaolmaaGreatDoor.M
open Go Go.Proofs.YtknafopmgaolmaaGreatDoor.AI

abbrev Dyt := Bool × List Int × Int
/-- In form. -/
def DyOk (x : Dyt) : Prop := Wok (x.1, x.2.1) ∧ (-1048576 ≤ x.2.2 ∧ x.2.2 ≤ 1048576) ∧ (M6.val x.2.1 = 0 → x.2.2 = 0) ∧ (M6.val x.2.1 ≠ 0 → M6.val x.2.1 % 2 = 1)
def dv (x : Dyt) : Int × Int := (wv (x.1, x.2.1), x.2.2)
def dD (p : Int × Int) : D := .agg [.sc (.bool (isNeg p.1)), .ints .u64 (M6.dg p.1.natAbs), .sc (.int .i64 p.2)]
/-- A number and the word for 'too large'. -/
def dE (ok : Bool) (p : Int × Int) : List D := [dD (bif ok then p else (0, 0)), .s (.sc (.int .i64 (bif ok then 0 else 5)))]
/-- z * 2^e in form. -/
def nrmD (z e : Int) : Int × Int := if z = 0 then (0, 0) else (z / ((2 ^ tz z.natAbs : Nat) : Int), e + (tz z.natAbs : Nat))
/-- Does it lie in the range? -/
def inD (z e : Int) : Bool := decide (z = 0) || (decide (-1048576 ≤ e + (tz z.natAbs : Nat)) && decide (e + (tz z.natAbs : Nat) ≤ 1048576))
theorem DyOk.wok {x : Dyt} (h : DyOk x) : Wok (x.1, x.2.1) := h.1
theorem DyOk.len {x : Dyt} (h : DyOk x) : x.2.1.length ≤ 8192 := h.1.len
theorem DyOk.nrm {x : Dyt} (h : DyOk x) : M6.Nrm x.2.1 := h.1.1
theorem DyOk.dD {x : Dyt} (h : DyOk x) : M.dD (dv x) = .agg [.sc (.bool x.1), .ints .u64 x.2.1, .sc (.int .i64 x.2.2)] := by
  have := h.wok.cells
  unfold M.dD dv
  dsimp only at *
  rw [this.1, this.2]
theorem zs_zero {b : Bool} {n : Nat} : zs b n = 0 ↔ n = 0 := by
  have := zs_abs b n
  omega
theorem zs_div {b : Bool} {n q : Nat} (hq : 0 < q) (h : n % q = 0) : zs b n / (q : Int) = zs b (n / q) := by
  have hd := Nat.div_add_mod n q
  have e : n = q * (n / q) := by omega
  cases b with
  | false =>
    show ((n : Nat) : Int) / (q : Int) = ((n / q : Nat) : Int)
    rw [Int.natCast_ediv]
  | true =>
    show -((n : Nat) : Int) / (q : Int) = -((n / q : Nat) : Int)
    have e1 : -(n : Int) = (q : Int) * (-((n / q : Nat) : Int)) := by rw [Int.mul_neg, ← Int.natCast_mul, ← e]
    rw [e1, Int.mul_ediv_cancel_left _ (by omega)]
theorem tz_bl {n : Nat} (h : n ≠ 0) : tz n < bl n := by
  have h1 := tz_lt h
  exact lt_bl_iff.2 h1
/-- A number in form, not too large. -/
def PIn (p : Int × Int) : Prop := bl p.1.natAbs ≤ 524288 ∧ (-1048576 ≤ p.2 ∧ p.2 ≤ 1048576) ∧ (p.1 = 0 → p.2 = 0) ∧ (p.1 ≠ 0 → p.1 % 2 = 1)
theorem dv_cells (p : Int × Int) : dv (isNeg p.1, M6.dg p.1.natAbs, p.2) = p := by
  unfold dv
  dsimp only
  rw [wv_wD]
theorem dyok_of {p : Int × Int} (h : PIn p) : DyOk (isNeg p.1, M6.dg p.1.natAbs, p.2) := by
  obtain ⟨h1, h2, h3, h4⟩ := h
  refine ⟨wok_wD h1, h2, fun hz => h3 ?_, fun hz => ?_⟩
  · dsimp only at hz
    rw [M6.val_dg] at hz
    omega
  · dsimp only at hz ⊢
    rw [M6.val_dg] at hz ⊢
    have := h4 (by omega)
    omega
theorem DyOk.pin {x : Dyt} (h : DyOk x) : PIn (dv x) := by
  obtain ⟨h1, h2, h3, h4⟩ := h
  have ha := wv_abs (x.1, x.2.1)
  dsimp only at ha
  refine ⟨?_, h2, fun hz => h3 ?_, fun hz => ?_⟩
  · show bl (wv _).natAbs ≤ _
    rw [ha]
    exact h1.bl
  · have hz : wv (x.1, x.2.1) = 0 := hz
    omega
  · have hz : wv (x.1, x.2.1) ≠ 0 := hz
    have := h4 (by omega)
    show wv (x.1, x.2.1) % 2 = 1
    omega
theorem PIn.neg {p : Int × Int} (h : PIn p) : PIn (-p.1, p.2) := by
  obtain ⟨h1, h2, h3, h4⟩ := h
  refine ⟨by dsimp only; rwa [Int.natAbs_neg], h2, fun hz => h3 (by dsimp only at hz; omega), fun hz => ?_⟩
  have := h4 (by dsimp only at hz; omega)
  dsimp only
  omega
/-- Far down it makes no difference how far. -/
theorem far {z : Int} {m n : Nat} (hm : bl z.natAbs ≤ m) (hn : bl z.natAbs ≤ n) : z / ((2 ^ m : Nat) : Int) = z / ((2 ^ n : Nat) : Int) := by
  have one : ∀ k, bl z.natAbs ≤ k → z / ((2 ^ k : Nat) : Int) = if z < 0 then -1 else 0 := by
    intro k hk
    have h := bl_le.1 hk
    have hp : 0 < 2 ^ k := Nat.pow_pos (by decide)
    generalize 2 ^ k = q at *
    by_cases hz : z < 0
    · rw [if_pos hz]
      have e : z = (q + z) + (q : Int) * (-1) := by omega
      rw [e, Int.add_mul_ediv_left _ _ (by omega), Int.ediv_eq_zero_of_lt (by omega) (by omega)]
      rfl
    · rw [if_neg hz, Int.ediv_eq_zero_of_lt (by omega) (by omega)]
  rw [one m hm, one n hn]
theorem div_abs {z : Int} {q : Nat} (hq : 0 < q) : (z / (q : Int)).natAbs ≤ z.natAbs := by
  have h := Int.mul_ediv_add_emod z (q : Int)
  have h1 := Int.emod_nonneg z (show (q : Int) ≠ 0 by omega)
  have h2 := Int.emod_lt_of_pos z (show 0 < (q : Int) by omega)
  by_cases hz : 0 ≤ z
  · have h3 : 0 ≤ z / (q : Int) := Int.ediv_nonneg hz (by omega)
    have h4 : z / (q : Int) ≤ z := Int.ediv_le_self _ hz
    omega
  · have h3 : z / (q : Int) < 0 := Int.ediv_neg_of_neg_of_pos (by omega) (by omega)
    have h4 : (q : Int) * (z / (q : Int) + 1) ≤ 1 * (z / (q : Int) + 1) := Int.mul_le_mul_of_nonpos_right (by omega) (by omega)
    rw [Int.mul_add] at h4
    omega
end Go.Proofs.YtknafopmgaolmaaGreatDoor.M

/- gnomon/nat.Form -/
namespace Go.Proofs.YtknafopmgaolmaaGreatDoor.W
open Go Go.Proofs.YtknafopmgaolmaaGreatDoor.AI Go.Proofs.YtknafopmgaolmaaGreatDoor.M
namespace NForm
noncomputable def E : Env := { (base) with nt := 20, own := [], keep := fun k => (tlook [] k).getD [], cut := tlook [] }
noncomputable def cod : Code := (Go.Proofs.Tryz.f202.body).getD .skip
theorem nok : namesOk E cod = true := by kernel_rfl
theorem start (a : List Int) : evalFn E Go.Proofs.Tryz.f202 cod [D.s (S.ints IntKind.u64 a)] = bcase (decide ((↑a.length : Int) ≤ (8192 : Int))) (bcase ((↑a.length : Int) == (0 : Int)) (some [D.s (S.sc (Value.bool true))]) (if (0 : Int) ≤ IntKind.i64.wrap ((↑a.length : Int) - (1 : Int)) ∧ IntKind.i64.wrap ((↑a.length : Int) - (1 : Int)) < (↑a.length : Int) then some [D.s (S.sc (Value.bool (a.getD (IntKind.i64.wrap ((↑a.length : Int) - (1 : Int))).toNat (0 : Int) != (0 : Int))))] else none)) (some [D.s (S.sc (Value.bool false))]) := (evalFn_J rfl nok _).trans (by kernel_rfl)
-- stuck: 0
end NForm
namespace NForm
def formB (a : List Int) : Bool := decide (a.length ≤ 8192) && (a.length == 0 || a.getD (a.length - 1) 0 != 0)
theorem form_of {a : List Int} (h : M6.Nrm a) (hl : a.length ≤ 8192) : formB a = true := by
  unfold formB
  rw [decide_eq_true hl, Bool.true_and]
  by_cases hz : a.length = 0
  · simp [hz]
  · have := M6.getLast_take (a := a) (n := a.length - 1) (by omega)
    rw [show a.length - 1 + 1 = a.length from by omega, List.take_length] at this
    have := h.top this
    have e1 : (a.getD (a.length - 1) 0 != 0) = true := by simpa using this
    rw [e1, Bool.or_true]
noncomputable def sp (a : List Int) : Prop × List D := (a.length ≤ 1099511627776, [.s (.sc (.bool (formB a)))])
theorem spec (a : List Int) (h : (sp a).1) : evalFn E Tryz.f202 cod [(pI .u64).put a] = some (sp a).2 := by
  have hl : a.length ≤ 1099511627776 := h
  refine (start a).trans ?_
  show _ = some [D.s (.sc (.bool (formB a)))]
  unfold formB
  by_cases h1 : a.length ≤ 8192
  · rw [bD_pos (by omega), decide_eq_true h1, Bool.true_and]
    by_cases hz : a.length = 0
    · rw [bE_pos (by omega)]; simp [hz]
    · have e : ((a.length : Int) - 1).toNat = a.length - 1 := by omega
      rw [bE_neg (by omega), wrap_i64 (n := (a.length : Int) - 1) (by omega) (by omega), if_pos (by omega), e]
      simp [hz]
  · rw [bD_neg (by omega), decide_eq_false h1]
    rfl

noncomputable def orc : Orc := orc1 (pI .u64) sp
theorem fnok : FnOk Tryz.prog E 202 Tryz.f202 cod := fnOk ty_ok mixed (callsOk_of _ rfl orcs_nil (ext_ok)) Tryz.func202 rfl rfl rfl
theorem ok : OrcOk Tryz.prog base.glob 202 orc := fnok.ok1 rfl spec
end NForm
end Go.Proofs.YtknafopmgaolmaaGreatDoor.W

/- gnomon/num.Form -/
namespace Go.Proofs.YtknafopmgaolmaaGreatDoor.W
open Go Go.Proofs.YtknafopmgaolmaaGreatDoor.AI Go.Proofs.YtknafopmgaolmaaGreatDoor.M
namespace MForm
noncomputable def E : Env := { ({ base with C := callsOf [(202, NForm.orc)] }) with nt := 17, own := [], keep := fun k => (tlook [] k).getD [], cut := tlook [] }
noncomputable def cod : Code := (Go.Proofs.Tryz.f150.body).getD .skip
theorem nok : namesOk E cod = true := by kernel_rfl
theorem start (a1 : Bool) (a2 : List Int) : evalFn E Go.Proofs.Tryz.f150 cod [D.agg [S.sc (Value.bool a1), S.ints IntKind.u64 a2]] = gif (a2.length ≤ (1099511627776 : Nat)) (bcase (NForm.formB a2) (bcase a1 (some [D.s (S.sc (Value.bool !(↑a2.length : Int) == (0 : Int)))]) (some [D.s (S.sc (Value.bool true))])) (some [D.s (S.sc (Value.bool false))])) := (evalFn_J rfl nok _).trans (by kernel_rfl)
-- stuck: 0
end MForm
namespace MForm
def formI (x : Bool × List Int) : Bool := NForm.formB x.2 && !(x.1 && ((x.2.length : Int) == 0))
theorem form_ok {x : Bool × List Int} (h : Wok x) : formI x = true := by
  unfold formI
  rw [NForm.form_of h.1 h.len, Bool.true_and]
  cases hx : x.1 with
  | false => rfl
  | true =>
    have := h.2.1 hx
    have hz : x.2.length ≠ 0 := fun hl => this ((M6.len_zero h.1).1 hl)
    rw [Bool.true_and, beq_eq_false_iff_ne.2 (by omega)]
    rfl
noncomputable def sp (x : Bool × List Int) : Prop × List D := (x.2.length ≤ 1099511627776, [.s (.sc (.bool (formI x)))])
theorem spec (x : Bool × List Int) (h : (sp x).1) : evalFn E Tryz.f150 cod [(pG (.pair sB (sI .u64))).put x] = some (sp x).2 := by
  have hl : x.2.length ≤ 1099511627776 := h
  refine (start x.1 x.2).trans ?_
  show _ = some [D.s (.sc (.bool (formI x)))]
  unfold formI
  rw [gP hl]
  cases NForm.formB x.2 with
  | false => rfl
  | true => cases x.1 <;> rfl

noncomputable def orc : Orc := orc1 (pG (.pair sB (sI .u64))) sp
theorem fnok : FnOk Tryz.prog E 150 Tryz.f150 cod := fnOk ty_ok mixed (callsOk_of _ rfl (orcs_cons NForm.ok orcs_nil) (ext_ok)) Tryz.func150 rfl rfl rfl
theorem ok : OrcOk Tryz.prog base.glob 150 orc := fnok.ok1 rfl spec
end MForm
end Go.Proofs.YtknafopmgaolmaaGreatDoor.W

/- gnomon/dyadic.nought -/
namespace Go.Proofs.YtknafopmgaolmaaGreatDoor.W
open Go Go.Proofs.YtknafopmgaolmaaGreatDoor.AI Go.Proofs.YtknafopmgaolmaaGreatDoor.M
namespace DNought
noncomputable def E : Env := { (base) with nt := 8, own := [], keep := fun k => (tlook [] k).getD [], cut := tlook [] }
noncomputable def cod : Code := (Go.Proofs.Tryz.f102.body).getD .skip
theorem nok : namesOk E cod = true := by kernel_rfl
theorem start (a1 : Bool) (a2 : List Int) (a3 : Int) : evalFn E Go.Proofs.Tryz.f102 cod [D.agg [S.sc (Value.bool a1), S.ints IntKind.u64 a2, S.sc (Value.int IntKind.i64 a3)]] = some [D.s (S.sc (Value.bool ((↑a2.length : Int) == (0 : Int))))] := (evalFn_J rfl nok _).trans (by kernel_rfl)
-- stuck: 0
end DNought
namespace DNought
noncomputable def sp (x : Bool × List Int × Int) : Prop × List D := (True, [.s (.sc (.bool ((x.2.1.length : Int) == 0)))])
theorem spec (x : Bool × List Int × Int) (h : (sp x).1) : evalFn E Tryz.f102 cod [(pG (.pair sB (.pair (sI .u64) (sN .i64)))).put x] = some (sp x).2 := start x.1 x.2.1 x.2.2

noncomputable def orc : Orc := orc1 (pG (.pair sB (.pair (sI .u64) (sN .i64)))) sp
theorem fnok : FnOk Tryz.prog E 102 Tryz.f102 cod := fnOk ty_ok mixed (callsOk_of _ rfl orcs_nil (ext_ok)) Tryz.func102 rfl rfl rfl
theorem ok : OrcOk Tryz.prog base.glob 102 orc := fnok.ok1 rfl spec
end DNought
end Go.Proofs.YtknafopmgaolmaaGreatDoor.W

/- gnomon/dyadic.Form -/
namespace Go.Proofs.YtknafopmgaolmaaGreatDoor.W
open Go Go.Proofs.YtknafopmgaolmaaGreatDoor.AI Go.Proofs.YtknafopmgaolmaaGreatDoor.M
namespace DForm
noncomputable def E : Env := { ({ base with C := callsOf [(150, MForm.orc), (102, DNought.orc)] }) with nt := 29, own := [], keep := fun k => (tlook [] k).getD [], cut := tlook [(3, [1])] }
noncomputable def cod : Code := (Go.Proofs.Tryz.f96.body).getD .skip
theorem nok : namesOk E cod = true := by kernel_rfl
noncomputable def J3 (b0 : Bool) (xs1 : List Int) (x2 : Int) : Option (List D) := ctO E Go.Proofs.Tryz.f96 cod 3 [(A.v (V.one (L.ptr (0 : Nat) (0 : Nat))), some { e := (35 : Nat), cont := Cont.cells [S.sc (Value.bool b0), S.ints IntKind.u64 xs1, S.sc (Value.int IntKind.i64 x2)] })]
theorem start (a1 : Bool) (a2 : List Int) (a3 : Int) : evalFn E Go.Proofs.Tryz.f96 cod [D.agg [S.sc (Value.bool a1), S.ints IntKind.u64 a2, S.sc (Value.int IntKind.i64 a3)]] = gif (a2.length ≤ (1099511627776 : Nat)) (bcase (!MForm.formI (a1, a2)) (some [D.s (S.sc (Value.bool false))]) (bcase (decide (a3 < (-1048576 : Int))) (some [D.s (S.sc (Value.bool false))]) (bcase (decide ((1048576 : Int) < a3)) (some [D.s (S.sc (Value.bool false))]) (DForm.J3 a1 a2 a3)))) := (evalFn_J rfl nok _).trans (by kernel_rfl)
theorem J3_eq (b0 : Bool) (xs1 : List Int) (x2 : Int) : J3 b0 xs1 x2 = gif True (bcase ((↑xs1.length : Int) == (0 : Int)) (some [D.s (S.sc (Value.bool (x2 == (0 : Int))))]) (if (0 : Int) ≤ (0 : Int) ∧ (0 : Int) < (↑xs1.length : Int) then some [D.s (S.sc (Value.bool (bitsI BinOp.and IntKind.u64 (xs1.getD (0 : Nat) (0 : Int)) (1 : Int) == (1 : Int))))] else none)) := (cutAt_J rfl nok 3 _).trans (by kernel_rfl)
-- stuck: 0
end DForm
namespace DForm
noncomputable def sp (x : Bool × List Int × Int) : Prop × List D := (DyOk x, [.s (.sc (.bool true))])
theorem odd_dig {a : List Int} (h : M6.Nrm a) (hv : M6.val a % 2 = 1) : bitsI .and .u64 (a.getD 0 0) 1 = 1 := by
  have g := h.dig.get 0
  rw [and64 g.1 g.2 (by omega) (by omega)]
  have e : M6.val a = (a.getD 0 0).toNat + 18446744073709551616 * M6.val (a.drop 1) := by
    have := M6.val_drop_one (a := a) 0
    rwa [List.drop_zero] at this
  have e1 : (a.getD 0 0).toNat &&& (1 : Int).toNat = (a.getD 0 0).toNat % 2 := Nat.and_one_is_mod _
  rw [e1]
  omega
theorem spec (x : Bool × List Int × Int) (h : (sp x).1) : evalFn E Tryz.f96 cod [(pG (.pair sB (.pair (sI .u64) (sN .i64)))).put x] = some (sp x).2 := by
  have h : DyOk x := h
  have hl := h.len
  have hf := MForm.form_ok h.wok
  have hn := h.nrm
  obtain ⟨b, a, e⟩ := x
  obtain ⟨hw, he, h0, h1⟩ := h
  refine (start b a e).trans ?_
  try dsimp only at *
  unfold sp
  try dsimp only
  rw [gP (by omega), hf, Bool.not_true, bF, bD_neg (by omega), bD_neg (by omega), J3_eq, gP trivial]
  try dsimp only
  by_cases hz : a.length = 0
  · rw [bE_pos (by omega), h0 ((M6.len_zero hn).1 hz)]
    rfl
  · rw [bE_neg (by omega), if_pos ⟨by omega, by omega⟩, odd_dig hn (h1 (fun hv => hz ((M6.len_zero hn).2 hv)))]
    rfl

noncomputable def orc : Orc := orc1 (pG (.pair sB (.pair (sI .u64) (sN .i64)))) sp
theorem fnok : FnOk Tryz.prog E 96 Tryz.f96 cod := fnOk ty_ok mixed (callsOk_of _ rfl (orcs_cons MForm.ok (orcs_cons DNought.ok orcs_nil)) (ext_ok)) Tryz.func96 rfl rfl rfl
theorem ok : OrcOk Tryz.prog base.glob 96 orc := fnok.ok1 rfl spec
end DForm
end Go.Proofs.YtknafopmgaolmaaGreatDoor.W

/- slices.Clone[[]uint64,uint64] -/
namespace Go.Proofs.YtknafopmgaolmaaGreatDoor.W
open Go Go.Proofs.YtknafopmgaolmaaGreatDoor.AI Go.Proofs.YtknafopmgaolmaaGreatDoor.M
namespace Clone
noncomputable def E : Env := { (base) with nt := 8, own := [], keep := fun k => (tlook [] k).getD [], cut := tlook [] }
noncomputable def cod : Code := (Go.Proofs.Tryz.f158.body).getD .skip
theorem nok : namesOk E cod = true := by kernel_rfl
theorem start (a : List Int) : evalFn E Go.Proofs.Tryz.f158 cod [D.s (S.ints IntKind.u64 a)] = none := (evalFn_J rfl nok _).trans (by kernel_rfl)
-- stuck: 0
end Clone
namespace Clone
def laysClone_ren : Go.Shelf.Ren := ⟨fun | 41 => 158 | n => n, fun | 22 => 31 | 23 => 23 | 4 => 4 | n => n, fun | n => n⟩
theorem laysClone : Go.Proofs.SlLaysE0.n41 Tryz.prog laysClone_ren := {
  mixed := by kernel_rfl
  f41 := ⟨Tryz.f158.name, by decide, Tryz.func158.trans (congrArg some (by kernel_rfl))⟩
  t4 := Tryz.underlying4
  a4 := Tryz.isAgg4
  z4 := Tryz.sizeOf4
  v4 := Tryz.zeroValue4
  t22 := Tryz.underlying31
  a22 := Tryz.isAgg31
  z22 := Tryz.sizeOf31
  v22 := Tryz.zeroValue31 }
noncomputable def sp (a : List Int) : Prop × List D := (a.length ≤ 1099511627776, [.s (.ints .u64 a)])
section
open Go.Shelf Go.RowKit Go.Lib
set_option maxHeartbeats 2000000
set_option maxRecDepth 100000
/-- The same at a slice of no length, whatever its address. -/
theorem zero {P : Program} {ρ : Ren} (L : SlLaysE0.n41 P ρ) (i0 : TypeInfo) (z : Value) (bytes : Nat) (hi : P.info? (ρ.t 23) = some i0) (hz0 : i0.zero = some z) (hz1 : i0.size = 1) (hz2 : i0.bytes = bytes) (hzs : z.cells.size = 1)
    (z23 : ∀ w, (Go.sizeOf (ρ.t 23)).run P w = .ok 1 w) (a : Addr) (c : Nat) (w : World) :
    Calls P (ρ.f 41) #[.slice (some a) 0 c] w fun e w' => ∃ v', e = .returned v' ∧ w'.ownsRow w.heap.size (ρ.t 23) 1 v' 0 [] ∧ Below w.heap.size w w' := by
  have mixed := L.mixed; have t4 := L.t4; have a4 := L.a4; have z4 := L.z4; have v4 := L.v4; have t22 := L.t22; have a22 := L.a22; have z22 := L.z22; have v22 := L.v22
  have q22 : ∀ (w : World) (a : Option Addr) (n c n' c' : Nat), (binOp .eql (ρ.t 22) (.slice a n c) (.slice none n' c')).run P w = .ok (.bool a.isNone) w := fun w a n c n' c' => Lib.run_eql_slice_nil w _ _ a n c n' c' L.t22
  have u22 : ∀ w, Sem.run P (underlying (ρ.t 22)) w = .ok (TypeDesc.slice (ρ.t 23)) w := run_underlying t22
  obtain ⟨_, _, FG⟩ := L.f41
  go_enter FG, SlBodyN.n41_ntmps ρ
  go_wp2_with (at_builtin; refine wpList_append_own _ rfl _ _ (ρ.t 22) rfl w.heap.size (ρ.t 23) i0 z 1 bytes t22 hi hz0 hz1 hz2 hzs (by decide) _ _ _ rfl (World.ownsRow_made w #[] 0 (Nat.le_refl _) (Nat.zero_le _) (by simp)) a 0 c [] rfl rfl (by intro j u hj; simp at hj) (by intro u hu; cases hu) (by unfold maxLen; omega) (by omega) (by simp) ?_)
  intro v' w1 hown hgrow hnil
  go_wp2
  go_ret
  exact ⟨v', rfl, by simpa using hown, ((Below.refl _ w).alloc (Nat.le_refl _) _).grown hgrow (by simp) (by intro k hk; simp [Value.ownBlock] at hk; omega)⟩
end
/-- What a row of one's own is worth. -/
theorem own_ints {X : Nat → Prop} {w : World} {base : Nat} {e : TypeId} {v : Value} {a : List Int} (hX : ∀ b, X b → b < base) (h : w.ownsRow base e 1 v a.length (a.map (Value.int .u64))) : RepS X w (.ints .u64 a) v := by
  obtain ⟨_, ⟨rfl, h0⟩ | ⟨g, cap, cur, rfl, hg, hb, hn, hm, hs, ht⟩⟩ := h
  · have : a = [] := List.length_eq_zero_iff.1 h0
    subst this
    exact ⟨none, 0, rfl, Nat.le_refl _, fun i n hn => by simp at hn⟩
  · refine ⟨some ⟨g, 0, none⟩, cap, rfl, hn, fun i n hi => ⟨g, 0, rfl, ?_, fun hx => ?_, ?_⟩⟩
    · exact (Array.getElem?_eq_some_iff.1 hb).1
    · have := hX g hx; omega
    · have hlt : i < a.length := (List.getElem?_eq_some_iff.1 hi).1
      have e1 : (cur.toList.take (a.length * 1))[i]? = some (Value.int .u64 n) := by
        rw [ht, List.getElem?_map, hi]
        rfl
      rw [List.getElem?_take, if_pos (by omega)] at e1
      simp only [World.cell?, hb, Nat.zero_add]
      simpa using e1
theorem one_res {Y : Nat → Prop} {base : Nat} {w : World} {d : D} {v : Value} (hd : isOwn d = false) (h : RepD Y w d v) : RepRes Y base w [d] [v] := by
  refine ⟨fun _ => 0, rfl, fun i j d1 d2 h1 h2 o1 _ _ => ?_, fun i d1 v1 h1 h2 => ?_⟩
  · have : d1 = d := by
      match i with
      | 0 => simpa using h1.symm
      | i + 1 => simp at h1
    rw [this, hd] at o1
    cases o1
  · have h3 : d1 = d ∧ v1 = v := by
      match i with
      | 0 => exact ⟨by simpa using h1.symm, by simpa using h2.symm⟩
      | i + 1 => simp at h1
    obtain ⟨rfl, rfl⟩ := h3
    have e : (fun b => Y b ∨ ∃ (j : Nat) (d' : D), [d1][j]? = some d' ∧ isOwn d' = true ∧ (fun _ : Nat => 0) j = b) = Y := by
      funext b
      refine propext ⟨fun hh => ?_, .inl⟩
      rcases hh with hh | ⟨j, d', h4, h5, _⟩
      · exact hh
      · match j with
        | 0 =>
          have : d' = d1 := by simpa using h4.symm
          rw [this, hd] at h5
          cases h5
        | j + 1 => simp at h4
    rw [e]
    cases d1 with
    | own => cases hd
    | _ => exact h
theorem contract (a : List Int) (hl : a.length ≤ 1099511627776) : Contract Tryz.prog base.glob 158 [(pI .u64).put a] [.s (.ints .u64 a)] := by
  intro Y w vs hY hG hlen hargs
  obtain ⟨v, rfl⟩ : ∃ v, vs = [v] := by
    match vs, hlen with
    | [v], _ => exact ⟨v, rfl⟩
  obtain ⟨A, c, rfl, hc, hcells⟩ : RepS Y w (.ints .u64 a) v := hargs 0 _ _ rfl rfl
  have t1 := ty_ok tU64 _ rfl
  obtain ⟨i0, hi, hs, hbt, z, hz, hzc⟩ := t1.i
  have z23 := fun w => t1.run_sizeOf (w := w)
  have fin : ∀ (e : Ending) (w' : World), (∃ v', e = .returned v' ∧ w'.ownsRow w.heap.size tU64 1 v' a.length (a.map (Value.int .u64)) ∧ RowKit.Below w.heap.size w w') → ∃ vs', e = .returned (resV vs') ∧ RowKit.Below w.heap.size w w' ∧ RepRes Y w.heap.size w' [.s (.ints .u64 a)] vs' := by
    rintro e w' ⟨v', rfl, ho, hb⟩
    exact ⟨[v'], rfl, hb, one_res rfl (own_ints hY ho)⟩
  have hzs : z.cells.size = 1 := by
    have := congrArg List.length hzc
    simpa using this
  cases A with
  | none =>
    have ha : a = [] := by
      cases a with
      | nil => rfl
      | cons x r => obtain ⟨b, off, h1, _⟩ := hcells 0 x rfl; cases h1
    subst ha
    refine (AnyE.slices_Clone_nil laysClone 0 c w).mono ?_
    rintro e w' ⟨rfl, rfl⟩
    exact fin _ _ ⟨_, rfl, ⟨rfl, .inl ⟨rfl, rfl⟩⟩, RowKit.Below.refl _ _⟩
  | some ad =>
    cases a with
    | nil =>
      refine (zero laysClone i0 z _ hi hz hs hbt hzs z23 ad c w).mono ?_
      rintro e w' ⟨v', rfl, ho, hb⟩
      exact fin _ _ ⟨v', rfl, ho, hb⟩
    | cons x r =>
      obtain ⟨b, off, h1, _⟩ := hcells 0 x rfl
      cases h1
      refine (AnyE.slices_Clone laysClone i0 z 1 _ hi hz hs hbt hzs (by decide) z23 b off (x :: r).length c ((x :: r).map (Value.int .u64)) w (by simp) (by unfold maxLen; omega) (by show (x :: r).length * 8 ≤ _; omega) ?_ ?_).mono ?_
      · intro j u hj
        rw [List.getElem?_map] at hj
        obtain ⟨n, hn, rfl⟩ := Option.map_eq_some_iff.1 hj
        obtain ⟨b', off', h2, _, _, h3⟩ := hcells j n hn
        cases h2
        exact h3
      · intro u hu
        obtain ⟨n, _, rfl⟩ := List.mem_map.1 hu
        rfl
      · rintro e w' ⟨v', rfl, ho, _, hb⟩
        exact fin _ _ ⟨v', rfl, ho, hb⟩
theorem hasb : HasBody Tryz.prog 158 := hasBody_of Tryz.func158 rfl rfl
noncomputable def orc : Orc := orc1 (pI .u64) sp
theorem ok : OrcOk Tryz.prog base.glob 158 orc := by
  intro ds g rs hd hg
  unfold orc orc1 at hd
  split at hd
  · split at hd
    · rename_i x hx
      have hd := Option.some.inj hd
      have e1 : g = (sp x).1 := by rw [hd]
      have e2 : rs = (sp x).2 := by rw [hd]
      subst e1; subst e2
      exact ⟨(contract x hg).of1 ((pI .u64).le hx), hasb⟩
    · cases hd
  · cases hd

end Clone
end Go.Proofs.YtknafopmgaolmaaGreatDoor.W

/- gnomon/dyadic.twin -/
namespace Go.Proofs.YtknafopmgaolmaaGreatDoor.W
open Go Go.Proofs.YtknafopmgaolmaaGreatDoor.AI Go.Proofs.YtknafopmgaolmaaGreatDoor.M
namespace DTwin
noncomputable def E : Env := { ({ base with C := callsOf [(158, Clone.orc)] }) with nt := 10, own := [], keep := fun k => (tlook [] k).getD [], cut := tlook [] }
noncomputable def cod : Code := (Go.Proofs.Tryz.f103.body).getD .skip
theorem nok : namesOk E cod = true := by kernel_rfl
theorem start (a1 : Bool) (a2 : List Int) (a3 : Int) : evalFn E Go.Proofs.Tryz.f103 cod [D.agg [S.sc (Value.bool a1), S.ints IntKind.u64 a2, S.sc (Value.int IntKind.i64 a3)]] = gif (a2.length ≤ (1099511627776 : Nat)) (some [D.agg [S.sc (Value.bool a1), S.ints IntKind.u64 a2, S.sc (Value.int IntKind.i64 a3)]]) := (evalFn_J rfl nok _).trans (by kernel_rfl)
-- stuck: 0
end DTwin
namespace DTwin
noncomputable def sp (x : Bool × List Int × Int) : Prop × List D := (x.2.1.length ≤ 1099511627776, [.agg [.sc (.bool x.1), .ints .u64 x.2.1, .sc (.int .i64 x.2.2)]])
theorem spec (x : Bool × List Int × Int) (h : (sp x).1) : evalFn E Tryz.f103 cod [(pG (.pair sB (.pair (sI .u64) (sN .i64)))).put x] = some (sp x).2 := (start x.1 x.2.1 x.2.2).trans (gP h)

noncomputable def orc : Orc := orc1 (pG (.pair sB (.pair (sI .u64) (sN .i64)))) sp
theorem fnok : FnOk Tryz.prog E 103 Tryz.f103 cod := fnOk ty_ok mixed (callsOk_of _ rfl (orcs_cons Clone.ok orcs_nil) (ext_ok)) Tryz.func103 rfl rfl rfl
theorem ok : OrcOk Tryz.prog base.glob 103 orc := fnok.ok1 rfl spec
end DTwin
end Go.Proofs.YtknafopmgaolmaaGreatDoor.W

/- gnomon/nat.trim -/
namespace Go.Proofs.YtknafopmgaolmaaGreatDoor.W
open Go Go.Proofs.YtknafopmgaolmaaGreatDoor.AI Go.Proofs.YtknafopmgaolmaaGreatDoor.M
namespace NTrim
noncomputable def E : Env := { (base) with nt := 21, own := [], keep := fun k => (tlook [(2, [0, 3])] k).getD [], cut := tlook [] }
noncomputable def cod : Code := (Go.Proofs.Tryz.f207.body).getD .skip
theorem nok : namesOk E cod = true := by kernel_rfl
noncomputable def L2 (xs0 : List Int) (x1 : Int) : Option (List D) := lpO E Go.Proofs.Tryz.f207 cod 2 [(A.v (V.one (L.s (S.ints IntKind.u64 xs0))), none), (A.v (V.one (L.s (S.sc (Value.int IntKind.i64 x1)))), none)]
theorem start (a : List Int) : evalFn E Go.Proofs.Tryz.f207 cod [D.s (S.ints IntKind.u64 a)] = NTrim.L2 a (↑a.length : Int) := (evalFn_J rfl nok _).trans (by kernel_rfl)
theorem L2_eq (xs0 : List Int) (x1 : Int) : L2 xs0 x1 = bcase (decide ((0 : Int) < x1)) (if (0 : Int) ≤ IntKind.i64.wrap (x1 - (1 : Int)) ∧ IntKind.i64.wrap (x1 - (1 : Int)) < (↑xs0.length : Int) then bcase (xs0.getD (IntKind.i64.wrap (x1 - (1 : Int))).toNat (0 : Int) == (0 : Int)) (NTrim.L2 xs0 (IntKind.i64.wrap (x1 - (1 : Int)))) (if (0 : Int) ≤ (0 : Int) ∧ (0 : Int) ≤ x1 ∧ x1 ≤ (↑xs0.length : Int) then some [D.s (S.ints IntKind.u64 (List.drop (0 : Nat) (List.take x1.toNat xs0)))] else none) else none) (if (0 : Int) ≤ (0 : Int) ∧ (0 : Int) ≤ x1 ∧ x1 ≤ (↑xs0.length : Int) then some [D.s (S.ints IntKind.u64 (List.drop (0 : Nat) (List.take x1.toNat xs0)))] else none) := (loopAt_J rfl nok 2 _).trans (by kernel_rfl)
-- stuck: 0
end NTrim
namespace NTrim
noncomputable def sp (a : List Int) : Prop × List D := (M6.Dig a ∧ a.length ≤ 1099511627776, [.s (.ints .u64 (M6.dg (M6.val a)))])
theorem L {xs : List Int} (hd : M6.Dig xs) (hl : xs.length ≤ 4398046511104) : ∀ n : Nat, n ≤ xs.length → L2 xs n = some [D.s (.ints .u64 (M6.dg (M6.val (xs.take n))))]
  | 0, h => by
    rw [L2_eq, bD_neg (by omega), if_pos (by omega)]
    simp [M6.val, M6.dg_zero]
  | n + 1, h => by
    rw [L2_eq]
    have e : IntKind.i64.wrap (((n + 1 : Nat) : Int) - 1) = (n : Int) := by rw [wrap_i64 (by omega) (by omega)]; omega
    rw [e, bD_pos (by omega), if_pos (by omega), Int.toNat_natCast]
    by_cases hz : xs.getD n 0 = 0
    · rw [bE_pos hz, L hd hl n (by omega), M6.val_take_succ (by omega), hz]
      simp
    · rw [bE_neg hz, if_pos (by omega), Int.toNat_natCast, List.drop_zero]
      have : M6.Nrm (xs.take (n + 1)) := M6.nrm_of (hd.take _) fun d hg => by
        rw [M6.getLast_take (by omega)] at hg
        cases hg
        exact hz
      rw [← this]
theorem spec (a : List Int) (h : (sp a).1) : evalFn E Tryz.f207 cod [(pI .u64).put a] = some (sp a).2 := by
  obtain ⟨hd, hl⟩ := h
  refine (start a).trans ?_
  rw [L hd (by omega) a.length (Nat.le_refl _), List.take_length]
  rfl

noncomputable def orc : Orc := orc1 (pI .u64) sp
theorem fnok : FnOk Tryz.prog E 207 Tryz.f207 cod := fnOk ty_ok mixed (callsOk_of _ rfl orcs_nil (ext_ok)) Tryz.func207 rfl rfl rfl
theorem ok : OrcOk Tryz.prog base.glob 207 orc := fnok.ok1 rfl spec
end NTrim
end Go.Proofs.YtknafopmgaolmaaGreatDoor.W

/- gnomon/nat.told -/
namespace Go.Proofs.YtknafopmgaolmaaGreatDoor.W
open Go Go.Proofs.YtknafopmgaolmaaGreatDoor.AI Go.Proofs.YtknafopmgaolmaaGreatDoor.M
namespace NTold
noncomputable def E : Env := { ({ base with C := callsOf [(207, NTrim.orc)] }) with nt := 10, own := [5], keep := fun k => (tlook [] k).getD [], cut := tlook [] }
noncomputable def cod : Code := (Go.Proofs.Tryz.f204.body).getD .skip
theorem nok : namesOk E cod = true := by kernel_rfl
theorem start (a : List Int) : evalFn E Go.Proofs.Tryz.f204 cod [D.s (S.ints IntKind.u64 a)] = gif (M6.Dig a ∧ a.length ≤ (1099511627776 : Nat)) (bcase (decide ((8192 : Int) < (↑(M6.dg (M6.val a)).length : Int))) (some [D.s (S.sc (Value.slice none (0 : Nat) (0 : Nat))), D.s (S.sc (Value.int IntKind.i64 (5 : Int)))]) (some [D.s (S.ints IntKind.u64 (M6.dg (M6.val a))), D.s (S.sc (Value.int IntKind.i64 (0 : Int)))])) := (evalFn_J rfl nok _).trans (by kernel_rfl)
-- stuck: 0
end NTold
namespace NTold
/-- Does a number fit the limit of limbs? -/
def okN (n : Nat) : Bool := decide ((M6.dg n).length ≤ 8192)
noncomputable def sp (a : List Int) : Prop × List D := (M6.Dig a ∧ a.length ≤ 1099511627776, [.s (.ints .u64 (bif okN (M6.val a) then M6.dg (M6.val a) else [])), .s (.sc (.int .i64 (bif okN (M6.val a) then 0 else 5)))])
theorem spec (a : List Int) (h : (sp a).1) : ∃ rs, evalFn E Tryz.f204 cod [(pI .u64).put a] = some rs ∧ RsLe rs (sp a).2 := by
  have hl := M6.len_val h.1
  have h2 := h.2
  have e := (start a).trans (gP h)
  unfold sp okN
  simp only
  by_cases hc : (M6.dg (M6.val a)).length ≤ 8192
  · rw [bD_neg (by omega)] at e
    rw [decide_eq_true hc]
    exact ⟨_, e, RsLe.refl _⟩
  · rw [bD_pos (by omega)] at e
    rw [decide_eq_false hc]
    exact ⟨_, e, .cons (RLe.nil _) (RsLe.refl _)⟩

noncomputable def orc : Orc := orc1 (pI .u64) sp
theorem fnok : FnOk Tryz.prog E 204 Tryz.f204 cod := fnOk ty_ok mixed (callsOk_of _ rfl (orcs_cons NTrim.ok orcs_nil) (ext_ok)) Tryz.func204 rfl rfl rfl
theorem ok : OrcOk Tryz.prog base.glob 204 orc := fnok.wk1 rfl spec
end NTold
end Go.Proofs.YtknafopmgaolmaaGreatDoor.W

