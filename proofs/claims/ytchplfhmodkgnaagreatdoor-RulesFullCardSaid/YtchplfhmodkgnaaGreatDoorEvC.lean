/-
  Regions in every order, code, calls and deferred calls: a run of the evaluator that comes to true tells of every run of the model.
  It says nothing of one program: conditions stand in each theorem.
-/
import Derived.Test.YtchplfhmodkgnaaGreatDoorEvB
import Derived.LoopN
import Derived.Scope
import Derived.Recover
set_option linter.constructorNameAsVariable false
namespace Go.Ev
open Go
variable {P : Program} {w : World} {ρ : Ren} {h : Heap} {nx : BK}

/-! ### regions, put into items -/
/-- where a value lies: on the stack (counted from below), in a slot, nowhere (a constant) -/
inductive Ref where
  | a (p : Nat) | s (k : VK) | c (v : AV)
def Ref.x (h : Nat) : Ref → X
  | .a p => .l (h - 1 - p)
  | .s k => .v k
  | .c v => .c v
def Ref.ok (h : Nat) : Ref → Prop
  | .a p => p < h
  | _ => True
noncomputable def rv (st : List AV) (e : Env) : Ref → AV
  | .a p => (st.reverse[p]?).getD (.k .bad)
  | .s k => vat e k
  | .c v => v
theorem opd_x {st : List AV} {e : Env} {n : Nat} {r : Ref} (hl : st.length = n) (hr : r.ok n) : opd (r.x n) st e = rv st e r := by
  cases r with
  | a p =>
    have hr : p < n := hr
    show nthD (n - 1 - p) st = (st.reverse[p]?).getD (.k .bad)
    rw [nthD_eq, List.getElem?_reverse (by omega), hl]
  | s k => rfl
  | c v => rfl
theorem rv_push {st : List AV} {e : Env} {v : AV} {r : Ref} (hr : r.ok st.length) : rv (v :: st) e r = rv st e r := by
  cases r with
  | a p =>
    have hr : p < st.length := hr
    show ((v :: st).reverse[p]?).getD (.k .bad) = (st.reverse[p]?).getD (.k .bad)
    rw [List.reverse_cons, List.getElem?_append_left (by simpa using hr)]
  | s k => rfl
  | c v => rfl
theorem Ref.ok_le {n m : Nat} (hle : n ≤ m) {r : Ref} (hr : r.ok n) : r.ok m := by
  cases r with
  | a p => have hr : p < n := hr; show p < m; omega
  | _ => trivial
def lkp {α : Type} : List (Nat × α) → Nat → Option α
  | [], _ => none
  | (j, r) :: l, i => if i = j then some r else lkp l i
theorem lkp_cons {α : Type} (j : Nat) (r : α) (l : List (Nat × α)) (i : Nat) : lkp ((j, r) :: l) i = if i = j then some r else lkp l i := rfl
def vkOf (i : Nat) : VK := ⟨dig (i / 8), dig (i % 8)⟩
def idx : List Nat → Nat → Option Nat
  | [], _ => none
  | u :: l, t => if t = u then some 0 else (idx l t).map (· + 1)
/-- the slot of a temporary -/
def slotOf (pers : List Nat) (t : Nat) : Option VK := (idx pers t).bind fun i => if i < 63 then some (vkOf i) else none
theorem idx_get : ∀ {l : List Nat} {t i : Nat}, idx l t = some i → l[i]? = some t := by
  intro l
  induction l with
  | nil => intro t i hi; cases hi
  | cons u l ih =>
    intro t i hi
    unfold idx at hi
    split at hi
    · rename_i e; cases hi; simp [e]
    · obtain ⟨j, hj, rfl⟩ := Option.map_eq_some_iff.1 hi
      simpa using ih hj
theorem vkOf_inj {i j : Nat} (hi : i < 64) (hj : j < 64) (h : vkOf i = vkOf j) : i = j := by
  unfold vkOf at h
  simp only [VK.mk.injEq] at h
  have h1 : (dig (i / 8)).val = (dig (j / 8)).val := by rw [h.1]
  have h2 : (dig (i % 8)).val = (dig (j % 8)).val := by rw [h.2]
  rw [dig_val _ (by omega), dig_val _ (by omega)] at h1 h2
  omega
theorem slotOf_inj {pers : List Nat} {t u : Nat} {k : VK} (ht : slotOf pers t = some k) (hu : slotOf pers u = some k) : t = u := by
  unfold slotOf at ht hu
  obtain ⟨i, hi, ht⟩ := Option.bind_eq_some_iff.1 ht
  obtain ⟨j, hj, hu⟩ := Option.bind_eq_some_iff.1 hu
  split at ht
  · split at hu
    · cases ht
      have : vkOf j = vkOf i := Option.some.inj hu
      have := vkOf_inj (by omega) (by omega) this
      subst this
      have := idx_get hi
      rw [idx_get hj] at this
      exact (Option.some.inj this).symm
    · cases hu
  · cases ht
/-- who writes temporaries -/
def wrOf : List Oper → Nat → List (Nat × Nat)
  | [], _ => []
  | o :: os, i => match o.dst with
    | some d => (d, i) :: wrOf os (i + 1)
    | none => wrOf os (i + 1)
theorem wrOf_ok : ∀ {os : List Oper} {n t j : Nat}, lkp (wrOf os n) t = some j → n ≤ j ∧ ∃ o, os[j - n]? = some o ∧ o.dst = some t := by
  intro os
  induction os with
  | nil => intro n t j hj; cases hj
  | cons o os ih =>
    intro n t j hj
    have key : lkp (wrOf os (n + 1)) t = some j → n ≤ j ∧ ∃ o', (o :: os)[j - n]? = some o' ∧ o'.dst = some t := by
      intro hj
      obtain ⟨h1, o', h2, h3⟩ := ih hj
      refine ⟨by omega, o', ?_, h3⟩
      have : j - n = (j - (n + 1)) + 1 := by omega
      rw [this]; simpa using h2
    unfold wrOf at hj
    cases hd : o.dst with
    | none => rw [hd] at hj; exact key hj
    | some d =>
      rw [hd] at hj
      simp only [lkp_cons] at hj
      split at hj
      · rename_i e
        cases hj
        exact ⟨Nat.le_refl _, o, by simp, by rw [hd, e]⟩
      · exact key hj
/-- what of a region is fixed -/
structure Rg where
  P : Program
  ix : Nat → Bool
  pers : List Nat
  nt : Nat
  ops : Array Oper
  wr : List (Nat × Nat)
  mask : Nat → Nat
/-- must the one be done ahead of the other? -/
def Rg.bef (G : Rg) (i j : Nat) : Bool := (G.mask i).testBit j
/-- how far it is put into items -/
structure Ws where
  h : Nat
  loc : List (Nat × Ref)
  done : Nat
  effm : Nat
def Rg.res (G : Rg) (ws : Ws) (i : Nat) : Operand → Option Ref
  | .tmp t => match lkp G.wr t with
    | some j => if G.bef i j then lkp ws.loc j else if i = j ∨ G.bef j i = true then (slotOf G.pers t).map .s else none
    | none => (slotOf G.pers t).map .s
  | .const v => (avC v).map .c
  | .func f => if f < 4096 then some (.c (.fn (fkOf f) [] [])) else none
  | .global _ => none
def Rg.rs (G : Rg) (ws : Ws) (i n : Nat) : Rs := fun x => (G.res ws i x).map (Ref.x n)
def isAlias (o : Oper) : Option Operand := match o.guard, o.op with
  | none, .move x => some x
  | none, .assign x => some x
  | _, _ => none
def isStr (P : Program) (t : TypeId) : Bool := match P.underlying t with
  | some .string => true
  | _ => false
def isUn (P : Program) (t : TypeId) : Bool := match P.underlying t with
  | some .unsafePointer => true
  | _ => false
def rdOf (P : Program) (o : Oper) : Bool := match o.op with
  | .load .. | .lookup .. | .slice .. | .call _ | .entry _ => true
  | .convert s d _ => isStr P d || isUn P s || isUn P d
  | _ => false
theorem reads_rdOf {ix : Nat → Bool} {R : Rs} {o : Oper} {i : RI} (hc : cR P ix R o = some i) (hr : i.reads = true) : rdOf P o = true := by
  obtain ⟨ds, op, ty, pos, af, gd⟩ := o
  unfold cR at hc
  split at hc <;> rename_i hop <;> (try simp only at hop) <;> (try subst hop) <;> (try (first | rfl | cases hc)) <;>
    (try (obtain ⟨a, hx, rfl⟩ := Option.map_eq_some_iff.1 hc; simp [RI.reads] at hr; done))
  · obtain ⟨a, hx, hc⟩ := Option.bind_eq_some_iff.1 hc
    obtain ⟨b, hy, hc⟩ := Option.bind_eq_some_iff.1 hc
    obtain ⟨c, hz, rfl⟩ := Option.map_eq_some_iff.1 hc
    simp [RI.reads] at hr
  · obtain ⟨a, hx, hc⟩ := Option.bind_eq_some_iff.1 hc
    obtain ⟨b, hy, hc⟩ := Option.bind_eq_some_iff.1 hc
    unfold cBin at hc
    split at hc
    · cases hc; simp [RI.reads] at hr
    · split at hc <;> cases hc <;> simp [RI.reads] at hr
    · obtain ⟨c, hz, rfl⟩ := Option.map_eq_some_iff.1 hc
      simp [RI.reads] at hr
    · obtain ⟨c, hz, hc⟩ := Option.bind_eq_some_iff.1 hc
      obtain ⟨c, hz, hc⟩ := Option.bind_eq_some_iff.1 hc
      split at hc <;> cases hc; simp [RI.reads] at hr
    · obtain ⟨c, hz, hc⟩ := Option.bind_eq_some_iff.1 hc
      obtain ⟨c, hz, hc⟩ := Option.bind_eq_some_iff.1 hc
      split at hc
      · cases hc; simp [RI.reads] at hr
      · split at hc
        · cases hc; simp [RI.reads] at hr
        · unfold cPtr at hc
          split at hc
          · split at hc
            · cases hc; simp [RI.reads] at hr
            · cases hc
          · cases hc
    · cases hc
  · rename_i s d x
    obtain ⟨a, hx, hc⟩ := Option.bind_eq_some_iff.1 hc
    unfold cConv at hc
    split at hc
    · cases hc; simp [RI.reads] at hr
    · cases hc; simp [RI.reads] at hr
    · cases hc; simp [RI.reads] at hr
    · rename_i hd
      simp [rdOf, isStr, hd]
    · rename_i hs hd
      simp [rdOf, isUn, hd]
    · rename_i hs hd
      simp [rdOf, isUn, hs]
    · cases hc
  · obtain ⟨a, hx, hc⟩ := Option.bind_eq_some_iff.1 hc
    split at hc
    · obtain ⟨c, hz, hc⟩ := Option.bind_eq_some_iff.1 hc
      obtain ⟨c, hz, hc⟩ := Option.bind_eq_some_iff.1 hc
      split at hc <;> cases hc; simp [RI.reads] at hr
    · cases hc
  · obtain ⟨a, hx, hc⟩ := Option.bind_eq_some_iff.1 hc
    obtain ⟨b, hy, hc⟩ := Option.bind_eq_some_iff.1 hc
    split at hc
    · obtain ⟨c, hz, rfl⟩ := Option.map_eq_some_iff.1 hc
      simp [RI.reads] at hr
    · obtain ⟨c, hz, rfl⟩ := Option.map_eq_some_iff.1 hc
      simp [RI.reads] at hr
    · cases hc
  · obtain ⟨a, hx, hc⟩ := Option.bind_eq_some_iff.1 hc
    obtain ⟨b, hy, hc⟩ := Option.bind_eq_some_iff.1 hc
    split at hc
    · cases hc; simp [RI.reads] at hr
    · obtain ⟨ag, hag, hc⟩ := Option.bind_eq_some_iff.1 hc
      obtain ⟨sz, hsz, rfl⟩ := Option.map_eq_some_iff.1 hc
      simp [RI.reads] at hr
    · cases hc
  · unfold cBuild at hc
    obtain ⟨a, hx, hc⟩ := Option.bind_eq_some_iff.1 hc
    obtain ⟨a, hx, hc⟩ := Option.bind_eq_some_iff.1 hc
    obtain ⟨a, hx, hc⟩ := Option.bind_eq_some_iff.1 hc
    obtain ⟨a, hx, hc⟩ := Option.bind_eq_some_iff.1 hc
    split at hc <;> cases hc; simp [RI.reads] at hr
  · obtain ⟨a, hx, hc⟩ := Option.bind_eq_some_iff.1 hc
    split at hc
    · split at hc <;> cases hc; simp [RI.reads] at hr
    · cases hc
  · split at hc
    · obtain ⟨a, hx, hc⟩ := Option.bind_eq_some_iff.1 hc
      obtain ⟨c, hz, rfl⟩ := Option.map_eq_some_iff.1 hc
      simp [RI.reads] at hr
    · cases hc
  · obtain ⟨a, hx, hc⟩ := Option.bind_eq_some_iff.1 hc
    split at hc
    · split at hc
      · cases hc
      · obtain ⟨c, hz, rfl⟩ := Option.map_eq_some_iff.1 hc
        simp [RI.reads] at hr
    · cases hc
end Go.Ev
set_option linter.constructorNameAsVariable false
namespace Go.Ev
open Go
variable {w : World} {ρ : Ren} {h : Heap} {nx : BK}

def isSlc (P : Program) (t : TypeId) : Bool := match P.underlying t with
  | some (.slice _) => true
  | _ => false
def isMk (P : Program) (o : Oper) : Bool := match o.op with
  | .alloc _ | .box .. | .buildSlice .. | .makeSlice .. | .makeMap .. => true
  | .convert s d _ => isStr P s && isSlc P d
  | _ => false
theorem cA_isMk {P : Program} {R : Rs} {o : Oper} {i : AI} (hc : cA P R o = some i) : isMk P o = true := by
  obtain ⟨ds, op, ty, pos, af, gd⟩ := o
  unfold cA at hc
  split at hc <;> rename_i hop <;> (try simp only at hop) <;> (try subst hop) <;> (try (first | rfl | cases hc))
  rename_i s d x
  obtain ⟨a, hx, hc⟩ := Option.bind_eq_some_iff.1 hc
  show (isStr P s && isSlc P d) = true
  split at hc
  · rename_i el hs hd
    unfold isStr isSlc
    rw [hs, hd]
    rfl
  · cases hc
theorem isMk_cR {P : Program} {ix : Nat → Bool} {R : Rs} {o : Oper} (hm : isMk P o = true) : cR P ix R o = none := by
  obtain ⟨ds, op, ty, pos, af, gd⟩ := o
  cases op <;> first | rfl | (simp [isMk] at hm; done) | skip
  rename_i s d x
  have hm : (isStr P s && isSlc P d) = true := hm
  simp only [Bool.and_eq_true] at hm
  obtain ⟨h1, h2⟩ := hm
  unfold isStr at h1
  unfold isSlc at h2
  split at h1
  · rename_i e1
    split at h2
    · rename_i e2
      show (R x).bind (fun a => cConv P s d a) = none
      cases R x with
      | none => rfl
      | some a => simp [cConv, e1, e2]
    · cases h2
  · cases h1
theorem isMk_rdOf {P : Program} {o : Oper} (hm : isMk P o = true) : rdOf P o = false := by
  obtain ⟨ds, op, ty, pos, af, gd⟩ := o
  cases op <;> first | rfl | (simp [isMk] at hm; done) | skip
  rename_i s d x
  have hm : (isStr P s && isSlc P d) = true := hm
  simp only [Bool.and_eq_true] at hm
  obtain ⟨h1, h2⟩ := hm
  unfold isSlc at h2
  unfold isStr at h1
  split at h1
  · rename_i e1
    split at h2
    · rename_i e2
      simp [rdOf, isStr, isUn, e1, e2]
    · cases h2
  · cases h1

/-! ### the items of a region -/
def Rg.cOp (G : Rg) (ws : Ws) (i n : Nat) (o : Oper) : Option B0 :=
  match cR G.P G.ix (G.rs ws i n) o with
  | some r => some (.r r)
  | none => match cA G.P (G.rs ws i n) o with
    | some a => some (.a a)
    | none => match cE G.P G.ix (G.rs ws i n) o with
      | some e => some (.e e)
      | none => some .f
/-- what never comes to an end -/
def failI : RI := .ext 0 (.c (.k .u))
theorem failI_ev {st : List AV} {e : Env} {h : Heap} {K : AV → Bool} (hh : evR failI st e h K = true) : False := nomatch (show false = true from hh)
/-- what is asked anew behind an effect -/
def Rg.cks (G : Rg) (ws : Ws) (i : Nat) : List (Nat × Ref) → Option (List (RI × X) × List (AI × X))
  | [] => some ([], [])
  | (j, r) :: l => (G.cks ws i l).bind fun cs =>
    if G.bef i j then some cs else (G.ops[j]?).bind fun o =>
      if (isAlias o).isSome then some cs else match cR G.P G.ix (G.rs ws j (ws.h + 1)) o with
        | some ri => if rdOf G.P o then (if o.guard.isNone then some ((ri, r.x (ws.h + 1)) :: cs.1, cs.2) else none) else some cs
        | none => match cA G.P (G.rs ws j (ws.h + 1)) o with
          | some ai => if o.guard.isNone then some (cs.1, (ai, r.x (ws.h + 1)) :: cs.2) else none
          | none => none
def Rg.dstOk (G : Rg) (i : Nat) (o : Oper) : Bool := match o.dst with
  | some d => decide (d < G.nt) && decide (lkp G.wr d = some i)
  | none => true
def Rg.guardOk (G : Rg) (i : Nat) (o : Oper) : Bool := match o.guard with
  | some (g, _) => G.bef i g && (match G.ops[g]? with | some o' => o'.dst.isSome | none => false)
  | none => true
def isE : B0 → Bool
  | .e _ => true
  | _ => false
def Rg.body (G : Rg) (ws : Ws) (i : Nat) : B0 → Option It
  | .r r => some (.r r)
  | .a a => some (.a a)
  | .e e => (G.cks ws i ws.loc).map fun c => .e e c.1 c.2
  | .f => some (.r failI)
def Rg.wrap (ws : Ws) (o : Oper) (it : It) : Option It := match o.guard with
  | none => some it
  | some (g, want) => (lkp ws.loc g).map fun r => .g want (r.x ws.h) it
def Ws.add (ws : Ws) (i : Nat) (r : Ref) : Ws := { ws with loc := (i, r) :: ws.loc, done := ws.done ||| 2 ^ i }
def Ws.push (ws : Ws) (i : Nat) (e : Bool) : Ws := { h := ws.h + 1, loc := (i, .a ws.h) :: ws.loc, done := ws.done ||| 2 ^ i, effm := if e then ws.effm ||| 2 ^ i else ws.effm }
def Rg.cond (G : Rg) (ws : Ws) (i : Nat) (o : Oper) : Bool :=
  decide (G.mask i &&& ws.done = G.mask i) && decide (ws.effm &&& G.mask i = ws.effm) && !ws.done.testBit i && G.dstOk i o && G.guardOk i o
def Rg.step (G : Rg) (ws : Ws) (i : Nat) : Option (Option It × Ws) :=
  (G.ops[i]?).bind fun o => if G.cond ws i o then
    match isAlias o with
    | some x => (G.res ws i x).map fun r => (none, ws.add i r)
    | none => (G.cOp ws i ws.h o).bind fun b => (G.body ws i b).bind fun it => (Rg.wrap ws o it).map fun it => (some it, ws.push i (isE b))
  else none
def Rg.walk (G : Rg) : List Nat → Ws → Option (List It × Ws)
  | [], ws => some ([], ws)
  | i :: l, ws => (G.step ws i).bind fun s => (G.walk l s.2).map fun q => (match s.1 with | some it => it :: q.1 | none => q.1, q.2)
def ws0 : Ws := ⟨0, [], 0, 0⟩

/-! ### what holds on the way -/
/-- what a resolver says, with places counted from below -/
def Rg.GoodR (G : Rg) (ρ : Ren) (ws : Ws) (i : Nat) (st : List AV) (e : Env) (ac : Act) : Prop := ∀ x r, G.res ws i x = some r → V ρ (rv st e r) (ac.eval x)
def Rg.Wanted (_ : Rg) (ws : Ws) (o : Oper) (st : List AV) (e : Env) : Prop := match o.guard with
  | none => True
  | some (g, want) => ∃ r, lkp ws.loc g = some r ∧ rv st e r = .b want
def Rg.Unwanted (_ : Rg) (ws : Ws) (o : Oper) (st : List AV) (e : Env) : Prop := match o.guard with
  | none => False
  | some (g, want) => ∃ r, lkp ws.loc g = some r ∧ ((∃ t, rv st e r = .b t ∧ t ≠ want) ∨ rv st e r = .k .u)
def Rg.RF (G : Rg) (ws : Ws) (i : Nat) (o : Oper) (st : List AV) (e : Env) (h : Heap) (v : AV) : Prop :=
  ∀ ρ nx w (ac : Act), (rdOf G.P o = true → Rel ρ h nx w) → G.GoodR ρ ws i st e ac → ∃ c, (execOp ac.eval o).run G.P w = .ok (.value c) w ∧ V ρ v c
def Rg.AF (G : Rg) (ws : Ws) (i : Nat) (o : Oper) (st : List AV) (e : Env) (ob : Ob) (mk : BK → AV) : Prop :=
  ∀ ρ w (ac : Act) k, G.GoodR ρ ws i st e ac → ∃ c w' L, (execOp ac.eval o).run G.P w = .ok (.value c) w' ∧ Made k ob mk ρ w w' c L
/-- why an operation can be done -/
inductive Rg.Fact (G : Rg) (ws : Ws) (S : St) (st : List AV) (nx0 : BK) (ky : Nat → Option BK) (ρ : Ren) (i : Nat) (o : Oper) (r : Ref) : Prop
  | un (hu : G.Unwanted ws o st S.e) (hv : rv st S.e r = .k .u)
  | rd (hw : G.Wanted ws o st S.e) (hm : isMk G.P o = false) (hf : G.RF ws i o st S.e S.h (rv st S.e r))
  | mk (hw : G.Wanted ws o st S.e) (hm : isMk G.P o = true) (k : BK) (mk : BK → AV) (hk : ky i = some k) (hv : rv st S.e r = mk k) (hkk : keyOf (mk k) (kqk k) = true) (hn : ρ k = none) (h0 : nx0.val ≤ k.val) (hf : G.AF ws i o st S.e (hat S.h k) mk)
/-- slots -/
def EnvR (ρ : Ren) (pers : List Nat) (e : Env) (a : Act) : Prop := ∀ t k, slotOf pers t = some k → V ρ (vat e k) (a.tmps.getD t undef)
theorem EnvR.mono {ρ ρ' : Ren} (hle : ρ.le ρ') {pers : List Nat} {e : Env} {a : Act} (he : EnvR ρ pers e a) : EnvR ρ' pers e a := fun t k hk => (he t k hk).mono hle
/-- where a region began -/
structure Beg where
  a : Act
  ρ : Ren
  nx : BK
  w : World
structure Rg.Inv (G : Rg) (B : Beg) (ws : Ws) (S : St) (st : List AV) (ky : Nat → Option BK) (D : List Nat) (a : Act) (w : World) (ρ : Ren) : Prop where
  len : st.length = ws.h
  ok : ∀ i r, lkp ws.loc i = some r → r.ok ws.h
  hd : ∀ i, ws.done.testBit i = true ↔ ∃ r, lkp ws.loc i = some r
  he : ∀ i, ws.effm.testBit i = true → i ∈ D
  cl : ∀ i r, lkp ws.loc i = some r → ∀ j, G.bef i j = true → ∃ r', lkp ws.loc j = some r'
  dst : ∀ i r, lkp ws.loc i = some r → ∃ o, G.ops[i]? = some o ∧ G.dstOk i o = true ∧ G.guardOk i o = true
  rel : Rel ρ S.h S.nx w
  ext : Ext B.ρ B.nx B.w ρ S.nx w
  sub : ∀ i ∈ D, ∃ r, lkp ws.loc i = some r
  clo : ∀ i ∈ D, ∀ j, G.bef i j = true → j ∈ D
  put : ∀ i ∈ D, ∀ o r d, G.ops[i]? = some o → o.dst = some d → lkp ws.loc i = some r → V ρ (rv st S.e r) (a.tmps.getD d undef)
  size : a.tmps.size = G.nt
  keep : ∀ t, (∀ i ∈ D, ∀ o, G.ops[i]? = some o → o.dst ≠ some t) → a.tmps.getD t undef = B.a.tmps.getD t undef
  env : EnvR B.ρ G.pers S.e B.a
  ds : DsR ρ S.ds a.defers
  fact : ∀ i r, lkp ws.loc i = some r → i ∉ D → ∃ o, G.ops[i]? = some o ∧ G.Fact ws S st B.nx ky ρ i o r
  kinj : ∀ i j k, ky i = some k → ky j = some k → i = j
  klt : ∀ i k, ky i = some k → k.val < S.nx.val ∧ ∃ r, lkp ws.loc i = some r
def Rg.WrOk (G : Rg) : Prop := ∀ t j, lkp G.wr t = some j → ∃ o, G.ops[j]? = some o ∧ o.dst = some t
section
variable {G : Rg} {B : Beg} {ws : Ws} {S : St} {st : List AV} {ky : Nat → Option BK} {D : List Nat} {a : Act}
theorem Rg.Inv.wr {i : Nat} {o : Oper} {t : Nat} (I : G.Inv B ws S st ky D a w ρ) (hi : i ∈ D) (ho : G.ops[i]? = some o) (hd : o.dst = some t) : t < G.nt ∧ lkp G.wr t = some i := by
  obtain ⟨r, hr⟩ := I.sub i hi
  obtain ⟨o', ho', h1, _⟩ := I.dst i r hr
  rw [ho] at ho'
  obtain rfl := Option.some.inj ho'
  unfold Rg.dstOk at h1
  rw [hd] at h1
  simpa using h1
theorem Rg.Inv.good {i : Nat} (I : G.Inv B ws S st ky D a w ρ) (hw : G.WrOk) (hi : i ∉ D) (hr : ∀ j, G.bef i j = true → j ∈ D) : G.GoodR ρ ws i st S.e a := by
  intro x r hres
  cases x with
  | tmp t =>
    have slot : (∀ i' ∈ D, ∀ o, G.ops[i']? = some o → o.dst ≠ some t) → (slotOf G.pers t).map Ref.s = some r → V ρ (rv st S.e r) (a.eval (.tmp t)) := by
      intro hno hs
      obtain ⟨k, hk, rfl⟩ := Option.map_eq_some_iff.1 hs
      show V ρ (vat S.e k) (a.tmps.getD t undef)
      rw [I.keep t hno]
      exact (I.env t k hk).mono I.ext.le
    simp only [Rg.res] at hres
    split at hres
    · rename_i j hj
      split at hres
      · rename_i hb
        obtain ⟨o, ho, hd⟩ := hw t j hj
        exact I.put j (hr j hb) o r t ho hd hres
      · split at hres
        · rename_i hc
          refine slot (fun i' hi' o ho hd => ?_) hres
          have := (I.wr hi' ho hd).2
          rw [hj] at this
          obtain rfl := Option.some.inj this
          rcases hc with rfl | hc
          · exact hi hi'
          · exact hi (I.clo _ hi' _ hc)
        · cases hres
    · rename_i hj
      refine slot (fun i' hi' o ho hd => ?_) hres
      have := (I.wr hi' ho hd).2
      rw [hj] at this
      cases this
  | const v =>
    obtain ⟨y, hy, rfl⟩ := Option.map_eq_some_iff.1 hres
    exact avC_ok hy ρ
  | func f =>
    simp only [Rg.res] at hres
    split at hres
    · rename_i hf
      cases hres
      have := V.fn' (ρ := ρ) (fkOf f) (l := []) (r := []) (cl := #[]) (cr := #[]) (Vs.nil _) (Vs.nil _)
      rwa [fkOf_val f hf] at this
    · cases hres
  | global g => cases hres
theorem yielded_bool {ops : Array Oper} {a : Act} {g : Nat} {o' : Oper} {d : Tmp} (ho : ops[g]? = some o') (hd : o'.dst = some d) {t : Bool} (hv : a.tmps.getD d undef = .bool t) : yielded ops a.tmps g = some t := by
  have : a.tmps[d]? = some (.bool t) := by
    rw [Array.getD_eq_getD_getElem?] at hv
    cases h : a.tmps[d]? with
    | none => rw [h] at hv; simp [undef] at hv
    | some c => rw [h] at hv; simp at hv; rw [hv]
  simp [yielded, ho, hd, this]
theorem yielded_undef {ops : Array Oper} {a : Act} {g : Nat} {o' : Oper} {d : Tmp} (ho : ops[g]? = some o') (hd : o'.dst = some d) (hv : a.tmps.getD d undef = undef) : yielded ops a.tmps g = none := by
  unfold yielded
  rw [ho]
  simp only [Option.bind_some, hd]
  rw [Array.getD_eq_getD_getElem?] at hv
  cases h : a.tmps[d]? with
  | none => rfl
  | some c => rw [h] at hv; simp at hv; rw [hv]; rfl
theorem Rg.Inv.wanted {i : Nat} {o : Oper} (I : G.Inv B ws S st ky D a w ρ) (hr : ∀ j, G.bef i j = true → j ∈ D) (hg : G.guardOk i o = true) (hw : G.Wanted ws o st S.e) : Region.wanted o (yielded G.ops a.tmps) = true := by
  unfold Region.wanted
  unfold Rg.guardOk at hg
  unfold Rg.Wanted at hw
  cases hgd : o.guard with
  | none => rfl
  | some q =>
    obtain ⟨g, want⟩ := q
    rw [hgd] at hg hw
    obtain ⟨r, h1, h2⟩ := hw
    simp only [Bool.and_eq_true] at hg
    obtain ⟨hb, hx⟩ := hg
    cases ho : G.ops[g]? with
    | none => rw [ho] at hx; simp at hx
    | some o' =>
      rw [ho] at hx
      obtain ⟨d, hd⟩ := Option.isSome_iff_exists.1 hx
      have hv := I.put g (hr g hb) o' r d ho hd h1
      rw [h2] at hv
      have := yielded_bool ho hd hv.bool_inv
      simp [this]
theorem Rg.Inv.unwanted {i : Nat} {o : Oper} (I : G.Inv B ws S st ky D a w ρ) (hr : ∀ j, G.bef i j = true → j ∈ D) (hg : G.guardOk i o = true) (hw : G.Unwanted ws o st S.e) : Region.wanted o (yielded G.ops a.tmps) = false := by
  unfold Region.wanted
  unfold Rg.guardOk at hg
  unfold Rg.Unwanted at hw
  cases hgd : o.guard with
  | none => rw [hgd] at hw; exact hw.elim
  | some q =>
    obtain ⟨g, want⟩ := q
    rw [hgd] at hg hw
    obtain ⟨r, h1, h2⟩ := hw
    simp only [Bool.and_eq_true] at hg
    obtain ⟨hb, hx⟩ := hg
    cases ho : G.ops[g]? with
    | none => rw [ho] at hx; simp at hx
    | some o' =>
      rw [ho] at hx
      obtain ⟨d, hd⟩ := Option.isSome_iff_exists.1 hx
      have hv := I.put g (hr g hb) o' r d ho hd h1
      rcases h2 with ⟨t, h2, h3⟩ | h2
      · rw [h2] at hv
        have := yielded_bool ho hd hv.bool_inv
        simp [this, h3]
      · rw [h2] at hv
        have hu : a.tmps.getD d undef = undef := by generalize a.tmps.getD d undef = c at hv; cases hv; rfl
        have := yielded_undef ho hd hu
        simp [this]
end
end Go.Ev
set_option linter.constructorNameAsVariable false
namespace Go.Ev
open Go
variable {w : World} {ρ : Ren} {h : Heap} {nx : BK}
theorem put_same {a : Act} {d : Tmp} {v : Value} (hd : d < a.tmps.size) : (a.put (some d) v).tmps.getD d undef = v := by
  simp [Act.put, hd]
theorem put_other {a : Act} {dst : Option Tmp} {t : Tmp} {v : Value} (hd : dst ≠ some t) : (a.put dst v).tmps.getD t undef = a.tmps.getD t undef := by
  cases dst with
  | none => rfl
  | some d =>
    have : d ≠ t := fun e => hd (by rw [e])
    simp only [Act.put, Array.getD_eq_getD_getElem?]
    rw [Array.getElem?_setIfInBounds_ne this]
theorem put_size {a : Act} {dst : Option Tmp} {v : Value} : (a.put dst v).tmps.size = a.tmps.size := by
  cases dst <;> simp [Act.put]
theorem put_defers {a : Act} {dst : Option Tmp} {v : Value} : (a.put dst v).defers = a.defers := by
  cases dst <;> simp [Act.put]
section
variable {G : Rg} {B : Beg} {ws : Ws} {S : St} {st : List AV} {ky : Nat → Option BK} {D : List Nat} {a : Act}
theorem Rg.Inv.did {i : Nat} {o : Oper} {r : Ref} {c : Value} {w' : World} {ρ' : Ren} (I : G.Inv B ws S st ky D a w ρ) (hi : i ∉ D) (hr : ∀ j, G.bef i j = true → j ∈ D) (hl : lkp ws.loc i = some r) (ho : G.ops[i]? = some o)
    (hv : V ρ' (rv st S.e r) c) (hle : ρ.le ρ') (hrel : Rel ρ' S.h S.nx w') (hext : Ext B.ρ B.nx B.w ρ' S.nx w') (hk : ∀ j k, j ≠ i → ky j = some k → ρ k = none → ρ' k = none) :
    G.Inv B ws S st ky (i :: D) (a.put o.dst c) w' ρ' := by
  obtain ⟨o', ho', g1, g2⟩ := I.dst i r hl
  rw [ho] at ho'
  obtain rfl := Option.some.inj ho'
  refine { len := I.len, ok := I.ok, hd := I.hd, he := fun f hf => List.mem_cons_of_mem _ (I.he f hf), cl := I.cl, dst := I.dst, rel := hrel, ext := hext, sub := ?_, clo := ?_, put := ?_, size := ?_, keep := ?_, env := I.env, ds := ?_, fact := ?_, kinj := I.kinj, klt := I.klt }
  · intro j hj
    rcases List.mem_cons.1 hj with rfl | hj
    · exact ⟨r, hl⟩
    · exact I.sub j hj
  · intro j hj k hjk
    rcases List.mem_cons.1 hj with rfl | hj
    · exact List.mem_cons_of_mem _ (hr k hjk)
    · exact List.mem_cons_of_mem _ (I.clo j hj k hjk)
  · intro j hj oj rj d hoj hd hlj
    rcases List.mem_cons.1 hj with rfl | hj'
    · rw [ho] at hoj
      obtain rfl := Option.some.inj hoj
      rw [hl] at hlj
      obtain rfl := Option.some.inj hlj
      have hlt : d < a.tmps.size := by
        unfold Rg.dstOk at g1
        rw [hd] at g1
        simp at g1
        rw [I.size]; exact g1.1
      rw [hd, put_same hlt]
      exact hv
    · have hne : o.dst ≠ some d := by
        intro hd'
        have h1 := (I.wr hj' hoj hd).2
        unfold Rg.dstOk at g1
        rw [hd'] at g1
        simp at g1
        rw [h1] at g1
        obtain rfl := Option.some.inj g1.2
        exact hi hj'
      rw [put_other hne]
      exact (I.put j hj' oj rj d hoj hd hlj).mono hle
  · rw [put_size]; exact I.size
  · intro t ht
    rw [put_other (ht i (List.mem_cons_self ..) o ho)]
    exact I.keep t fun j hj => ht j (List.mem_cons_of_mem _ hj)
  · rw [put_defers]; exact I.ds.mono hle
  · intro j rj hlj hj
    have hji : j ≠ i := fun e => hj (by rw [e]; exact List.mem_cons_self ..)
    have hjD : j ∉ D := fun e => hj (List.mem_cons_of_mem _ e)
    obtain ⟨oj, hoj, F⟩ := I.fact j rj hlj hjD
    refine ⟨oj, hoj, ?_⟩
    cases F with
    | un h1 h2 => exact .un h1 h2
    | rd h1 h2 h3 => exact .rd h1 h2 h3
    | mk h1 h2 k m h3 h4 hkk h5 h6 h7 => exact .mk h1 h2 k m h3 h4 hkk (hk j k hji h3 h5) h6 h7
theorem Rg.Inv.exec {i : Nat} {r : Ref} (I : G.Inv B ws S st ky D a w ρ) (hw : G.WrOk) (hi : i ∉ D) (hr : ∀ j, G.bef i j = true → j ∈ D) (hl : lkp ws.loc i = some r) {next : Act → World → Prop} {Q : Exit → Act → World → Prop}
    (hn : ∀ a' w' ρ', G.Inv B ws S st ky (i :: D) a' w' ρ' → next a' w') : wpOp G.P G.ops Q i next a w := by
  obtain ⟨o, ho, F⟩ := I.fact i r hl hi
  obtain ⟨o', ho', g1, g2⟩ := I.dst i r hl
  rw [ho] at ho'
  obtain rfl := Option.some.inj ho'
  unfold wpOp
  rw [ho]
  cases F with
  | un h1 h2 =>
    simp only [I.unwanted hr g2 h1, Bool.false_eq_true, if_false]
    exact hn _ _ ρ (I.did hi hr hl ho (by rw [h2]; exact .u) (Ren.le_refl _) I.rel I.ext (fun _ _ _ _ h => h))
  | rd h1 _ h3 =>
    simp only [I.wanted hr g2 h1, if_true]
    obtain ⟨c, q1, q2⟩ := h3 ρ S.nx w a (fun _ => I.rel) (I.good hw hi hr)
    exact .inl (wp_value q1 (hn _ _ ρ (I.did hi hr hl ho q2 (Ren.le_refl _) I.rel I.ext (fun _ _ _ _ h => h))))
  | mk h1 _ k m h3 h4 _ h5 h6 h7 =>
    simp only [I.wanted hr g2 h1, if_true]
    obtain ⟨c, w', L, q1, q2⟩ := h7 ρ w a k (I.good hw hi hr)
    obtain ⟨v1, v2⟩ := q2.val (ρ.put k L) (Ren.le_put h5) (Ren.put_same ρ k L)
    refine .inl (wp_value q1 (hn _ _ (ρ.put k L) (I.did hi hr hl ho ?_ (Ren.le_put h5) ?_ ?_ ?_)))
    · rw [h4]; exact v1
    · exact I.rel.birth h5 (I.klt i k h3).1 q2.grown q2.blk v2 q2.room
    · exact I.ext.birth h5 h6 q2.grown q2.blk
    · intro j k' hj hk' hno
      unfold Ren.put
      rw [if_neg]
      · exact hno
      · intro e
        subst e
        exact hj (I.kinj j i _ hk' h3)
/-- what is left is done, in whatever order -/
theorem Rg.Inv.drain {Gl : List Nat → Act → World → Prop} {n : Nat} {Q : Exit → Act → World → Prop} (hw : G.WrOk)
    (hG : ∀ D a w, (∀ i ∈ D, i < n) → (∀ i ∈ D, ∀ j, G.bef i j = true → j ∈ D) → (∀ i, i < n → i ∉ D → (∀ j, G.bef i j = true → j ∈ D) → wpOp G.P G.ops Q i (Gl (i :: D)) a w) → ((∀ i, i < n → i ∈ D) → Q .normal a w) → Gl D a w)
    (hn : ∀ i r, lkp ws.loc i = some r → i < n)
    (hX : ∀ D a w ρ, G.Inv B ws S st ky D a w ρ → (∀ i, i < n → i ∉ D → lkp ws.loc i = none → (∀ j, G.bef i j = true → j ∈ D) → wpOp G.P G.ops Q i (Gl (i :: D)) a w) ∧ ((∀ i, i < n → i ∈ D) → Q .normal a w)) :
    ∀ (m : Nat) (D : List Nat) (a : Act) (w : World) (ρ : Ren), ((List.range n).filter (· ∉ D)).length = m → G.Inv B ws S st ky D a w ρ → Gl D a w := by
  intro m
  induction m with
  | zero =>
    intro D a w ρ hm I
    refine hG D a w (fun i hi => ?_) I.clo (fun i hi hiD _ => ?_) (hX D a w ρ I).2
    · obtain ⟨r, hr⟩ := I.sub i hi; exact hn i r hr
    · have : i ∈ (List.range n).filter (· ∉ D) := by simp [hi, hiD]
      rw [List.length_eq_zero_iff.1 hm] at this
      cases this
  | succ m ih =>
    intro D a w ρ hm I
    refine hG D a w (fun i hi => ?_) I.clo (fun i hi hiD hr => ?_) (hX D a w ρ I).2
    · obtain ⟨r, hr⟩ := I.sub i hi; exact hn i r hr
    · cases hl : lkp ws.loc i with
      | none => exact (hX D a w ρ I).1 i hi hiD hl hr
      | some r =>
        refine I.exec hw hiD hr hl fun a' w' ρ' I' => ih (i :: D) a' w' ρ' ?_ I'
        have key : ∀ l : List Nat, l.Nodup → i ∈ l → (l.filter (· ∉ (i :: D))).length + 1 = (l.filter (· ∉ D)).length := by
          intro l
          induction l with
          | nil => intro _ h; cases h
          | cons x l ihl =>
            intro hnd hmem
            rw [List.nodup_cons] at hnd
            by_cases hx : x = i
            · subst hx
              have e1 : l.filter (· ∉ (x :: D)) = l.filter (· ∉ D) := by
                refine List.filter_congr fun y hy => ?_
                have : y ≠ x := fun e => hnd.1 (e ▸ hy)
                simp [this]
              rw [List.filter_cons_of_neg (by simp), List.filter_cons_of_pos (by simpa using hiD), e1, List.length_cons]
            · have hmem' : i ∈ l := by
                rcases List.mem_cons.1 hmem with e | e
                · exact absurd e.symm hx
                · exact e
              have := ihl hnd.2 hmem'
              by_cases hxD : x ∈ D
              · rw [List.filter_cons_of_neg (by simp [hxD]), List.filter_cons_of_neg (by simp [hxD])]; exact this
              · rw [List.filter_cons_of_pos (by simp [hx, hxD]), List.filter_cons_of_pos (by simp [hxD]), List.length_cons, List.length_cons, this]
        have := key (List.range n) List.nodup_range (by simpa using hi)
        omega
end
end Go.Ev
set_option linter.constructorNameAsVariable false
namespace Go.Ev
open Go
variable {w : World} {ρ : Ren} {h : Heap} {nx : BK}

/-! ### the same -/
theorem kNo_inj {a b : Kc} (hh : kNo a = kNo b) : a = b := by cases a <;> cases b <;> first | rfl | (simp [kNo] at hh)
theorem same0_eq {v u : AV} (hh : same0 v u = true) : v = u := by
  cases v <;> cases u <;> first | (cases hh; done) | skip
  · rename_i a b
    have hh : Nat.beq (kNo a) (kNo b) = true := hh
    rw [kNo_inj (beq_true hh)]
  · rename_i a b
    have hh : eqb a b = true := hh
    rw [eqb_eq] at hh
    simp at hh
    rw [hh]
  · rename_i k n k' n'
    obtain ⟨h1, h2⟩ := ifb_true (show ifb (kq k k') (ieq n n') false = true from hh)
    rw [kq_eq] at h1
    rw [ieq_eq] at h2
    simp at h1 h2
    rw [h1, h2]
  · rename_i a b
    have hh : leq a b = true := hh
    rw [leq_eq] at hh
    simp at hh
    rw [hh]
  · rename_i k n k' n'
    obtain ⟨h1, h2⟩ := ifb_true (show ifb (decide (k = k')) (Nat.beq n n') false = true from hh)
    simp at h1
    rw [h1, beq_true h2]
  · rename_i k o n c k' o' n' c'
    obtain ⟨h1, h2⟩ := ifb_true (show ifb (decide (k = k')) (ifb (Nat.beq o o') (ifb (Nat.beq n n') (decide (c = c')) false) false) false = true from hh)
    obtain ⟨h2, h3⟩ := ifb_true h2
    obtain ⟨h3, h4⟩ := ifb_true h3
    simp at h1 h4
    rw [h1, beq_true h2, beq_true h3, h4]
  · rename_i a b
    have hh : decide (a = b) = true := hh
    simp at hh
    rw [hh]
theorem sames_eq : ∀ {l m : List AV}, sames l m = true → l = m := by
  intro l
  induction l with
  | nil => intro m hh; cases m with | nil => rfl | cons x m => cases hh
  | cons x l ih =>
    intro m hh
    cases m with
    | nil => cases hh
    | cons y m =>
      obtain ⟨h1, h2⟩ := ifb_true (show ifb (same0 x y) (sames l m) false = true from hh)
      rw [same0_eq h1, ih h2]
theorem same_eq {v u : AV} (hh : same v u = true) : v = u := by
  cases v with
  | agg l => cases u with
    | agg m => rw [sames_eq (show sames l m = true from hh)]
    | _ => cases hh
  | tup l => cases u with
    | tup m => rw [sames_eq (show sames l m = true from hh)]
    | _ => cases hh
  | fn f l r => cases u with
    | fn g l' r' =>
      obtain ⟨h1, h2⟩ := ifb_true (show ifb (decide (f = g)) (ifb (sames l l') (sames r r') false) false = true from hh)
      obtain ⟨h2, h3⟩ := ifb_true h2
      rw [of_decide_eq_true h1, sames_eq h2, sames_eq h3]
    | _ => cases hh
  | iface t x => cases hh
  | q k t l => cases hh
  | _ => exact same0_eq hh
theorem sameT_eq {a b : Tg} (hh : sameT a b = true) : a = b := by
  cases a with
  | o => cases b with
    | o => rfl
    | _ => cases hh
  | x t n => cases b with
    | x t' n' =>
      obtain ⟨h1, h2⟩ := ifb_true (show ifb (Nat.beq t' t) (Nat.beq n' n) false = true from hh)
      rw [Nat.eq_of_beq_eq_true h1, Nat.eq_of_beq_eq_true h2]
    | _ => cases hh
  | r t => cases b with
    | r t' => rw [Nat.eq_of_beq_eq_true (show Nat.beq t' t = true from hh)]
    | _ => cases hh
theorem sameOb_eq {a b : Ob} (hh : sameOb a b = true) : a = b := by
  cases a with
  | no => cases hh
  | cells g l => cases b with
    | cells g' m =>
      obtain ⟨h1, h2⟩ := ifb_true (show ifb (sameT g g') (sames l m) false = true from hh)
      rw [sameT_eq h1, sames_eq h2]
    | _ => cases hh
  | map l => cases b with
    | map m =>
      obtain ⟨h1, h2⟩ := ifb_true (show ifb (nul l) (nul m) false = true from hh)
      rw [nul_eq] at h1 h2
      simp at h1 h2
      rw [h1, h2]
    | _ => cases hh
  | it _ _ _ _ => cases hh
theorem keyOf_inv {v : AV} {K : BK → Bool} (hh : keyOf v K = true) : ∃ k, K k = true := by
  cases v <;> first | (cases hh; done) | exact ⟨_, hh⟩

/-! ### a heap that has more keys -/
theorem Rel.down {h' : Heap} (hg : ∀ k, hat h' k = hat h k ∨ hat h k = .no) (hr : Rel ρ h' nx w) : Rel ρ h nx w := by
  refine ⟨fun b L hb => ?_, hr.lt, hr.fresh, fun b b' L L' h1 h2 n1 n2 he => ?_, fun b L hb hn => hr.room b L hb (fun e => by rcases hg b with e1 | e1; exact hn (e1 ▸ e); exact hn e1)⟩
  · rcases hg b with e | e
    · rw [← e]; exact hr.ob b L hb
    · rw [e]; trivial
  · refine hr.inj b b' L L' h1 h2 ?_ ?_ he
    · rcases hg b with e | e
      · rw [e]; exact n1
      · exact absurd e n1
    · rcases hg b' with e | e
      · rw [e]; exact n2
      · exact absurd e n2

section
variable {G : Rg} {B : Beg} {ws ws' : Ws} {S S' : St} {st st' : List AV} {ky ky' : Nat → Option BK} {D : List Nat} {a : Act} {e : Env}
/-- one operation more is put into items -/
structure Up (ws : Ws) (st : List AV) (e : Env) (i : Nat) (r : Ref) (ws' : Ws) (st' : List AV) : Prop where
  loc : ws'.loc = (i, r) :: ws.loc
  new : lkp ws.loc i = none
  rv : ∀ q, q.ok ws.h → rv st' e q = rv st e q
theorem Up.lkp {i : Nat} {r : Ref} (U : Up ws st e i r ws' st') {j : Nat} {q : Ref} (hj : lkp ws.loc j = some q) : lkp ws'.loc j = some q := by
  rw [U.loc, lkp_cons, if_neg]
  · exact hj
  · intro e; rw [e, U.new] at hj; cases hj
theorem Up.res {i : Nat} {r : Ref} (U : Up ws st e i r ws' st') {j : Nat} (hb : ∀ j', G.bef j j' = true → ∃ q, Ev.lkp ws.loc j' = some q) (x : Operand) : G.res ws' j x = G.res ws j x := by
  cases x with
  | tmp t =>
    simp only [Rg.res]
    split
    · rename_i j' hj'
      split
      · rename_i hbj
        obtain ⟨q, hq⟩ := hb j' hbj
        rw [hq, U.lkp hq]
      · rfl
    · rfl
  | _ => rfl
theorem Rg.res_ok {n : Nat} (hok : ∀ i r, Ev.lkp ws.loc i = some r → r.ok n) {i : Nat} {x : Operand} {r : Ref} (hr : G.res ws i x = some r) : r.ok n := by
  cases x with
  | tmp t =>
    have slot : (slotOf G.pers t).map Ref.s = some r → r.ok n := by
      intro h
      obtain ⟨k, _, rfl⟩ := Option.map_eq_some_iff.1 h
      trivial
    simp only [Rg.res] at hr
    split at hr
    · split at hr
      · exact hok _ _ hr
      · split at hr
        · exact slot hr
        · cases hr
    · exact slot hr
  | const v =>
    obtain ⟨y, hy, rfl⟩ := Option.map_eq_some_iff.1 hr
    trivial
  | func f =>
    simp only [Rg.res] at hr
    split at hr
    · cases hr; trivial
    · cases hr
  | global g => cases hr
theorem Rg.GoodR.back {i : Nat} {r : Ref} (U : Up ws st e i r ws' st') (hok : ∀ i r, Ev.lkp ws.loc i = some r → r.ok ws.h) {j : Nat} (hb : ∀ j', G.bef j j' = true → ∃ q, Ev.lkp ws.loc j' = some q) {ac : Act} (hg : G.GoodR ρ ws' j st' e ac) : G.GoodR ρ ws j st e ac := by
  intro x q hq
  have := hg x q (by rw [U.res hb]; exact hq)
  rwa [U.rv q (Rg.res_ok hok hq)] at this
theorem Rg.GoodR.good {i n : Nat} (hl : st.length = n) (hok : ∀ i r, Ev.lkp ws.loc i = some r → r.ok n) {ac : Act} (hg : G.GoodR ρ ws i st e ac) : Good ρ (G.rs ws i n) st e ac := by
  intro x y hy
  obtain ⟨q, hq, rfl⟩ := Option.map_eq_some_iff.1 hy
  rw [opd_x hl (Rg.res_ok hok hq)]
  exact hg x q hq
theorem Up.wanted {i : Nat} {r : Ref} (U : Up ws st e i r ws' st') (hok : ∀ i r, Ev.lkp ws.loc i = some r → r.ok ws.h) {o : Oper} (hw : G.Wanted ws o st e) : G.Wanted ws' o st' e := by
  unfold Rg.Wanted at *
  split
  · trivial
  · rename_i g want hgd
    rw [hgd] at hw
    obtain ⟨q, h1, h2⟩ := hw
    exact ⟨q, U.lkp h1, by rw [U.rv q (hok _ _ h1)]; exact h2⟩
theorem Up.unwanted {i : Nat} {r : Ref} (U : Up ws st e i r ws' st') (hok : ∀ i r, Ev.lkp ws.loc i = some r → r.ok ws.h) {o : Oper} (hw : G.Unwanted ws o st e) : G.Unwanted ws' o st' e := by
  unfold Rg.Unwanted at *
  cases hgd : o.guard with
  | none => rw [hgd] at hw; exact hw
  | some gw =>
    obtain ⟨g, want⟩ := gw
    rw [hgd] at hw
    obtain ⟨q, h1, h2⟩ := hw
    exact ⟨q, U.lkp h1, by rw [U.rv q (hok _ _ h1)]; exact h2⟩
/-- what was known stays so, as long as the heap only grows -/
theorem Rg.Inv.facts {i : Nat} {r : Ref} (I : G.Inv B ws S st ky D a w ρ) (U : Up ws st S.e i r ws' st') (he : S'.e = S.e) (hg : ∀ k, hat S'.h k = hat S.h k ∨ (hat S.h k = .no ∧ S.nx.val ≤ k.val)) (hky : ∀ j, j ≠ i → ky' j = ky j) :
    ∀ j q, lkp ws.loc j = some q → j ∉ D → ∃ o, G.ops[j]? = some o ∧ G.Fact ws' S' st' B.nx ky' ρ j o q := by
  intro j q hj hjD
  obtain ⟨o, ho, F⟩ := I.fact j q hj hjD
  have hji : j ≠ i := by intro e; rw [e, U.new] at hj; cases hj
  have hq := U.rv q (I.ok j q hj)
  have hb := I.cl j q hj
  refine ⟨o, ho, ?_⟩
  cases F with
  | un h1 h2 => exact .un (by rw [he]; exact U.unwanted I.ok h1) (by rw [he, hq]; exact h2)
  | rd h1 h2 h3 =>
    refine .rd (by rw [he]; exact U.wanted I.ok h1) h2 ?_
    rw [he, hq]
    intro ρ' nx' w' ac hr hgd
    exact h3 ρ' nx' w' ac (fun hrd => (hr hrd).down fun k => (hg k).imp id And.left) (hgd.back U I.ok hb)
  | mk h1 h2 k m h3 h4 hkk h5 h6 h7 =>
    have hk : hat S'.h k = hat S.h k := by
      rcases hg k with e | ⟨_, e⟩
      · exact e
      · have := (I.klt j k h3).1; omega
    refine .mk (by rw [he]; exact U.wanted I.ok h1) h2 k m (by rw [hky j hji]; exact h3) (by rw [he, hq]; exact h4) hkk h5 h6 ?_
    rw [he, hk]
    intro ρ' w' ac k' hgd
    exact h7 ρ' w' ac k' (hgd.back U I.ok hb)
end
end Go.Ev
set_option linter.constructorNameAsVariable false
namespace Go.Ev
open Go
variable {w : World} {ρ : Ren} {h : Heap} {nx : BK}
section
variable {G : Rg} {B : Beg} {ws ws' : Ws} {S S' : St} {st st' : List AV} {ky ky' : Nat → Option BK} {D : List Nat} {a : Act} {e : Env}
theorem and_bit {a b : Nat} (hh : a &&& b = a) {j : Nat} (hj : a.testBit j = true) : b.testBit j = true := by
  rw [← hh, Nat.testBit_and] at hj
  simp at hj
  exact hj.2
theorem or_bit (a i j : Nat) : (a ||| 2 ^ i).testBit j = (a.testBit j || decide (i = j)) := by
  rw [Nat.testBit_or, Nat.testBit_two_pow]
structure CondOk (G : Rg) (ws : Ws) (i : Nat) (o : Oper) : Prop where
  bef : ∀ j, G.bef i j = true → ws.done.testBit j = true
  eff : ∀ f, ws.effm.testBit f = true → G.bef i f = true
  new : ws.done.testBit i = false
  dst : G.dstOk i o = true
  grd : G.guardOk i o = true
theorem cond_ok {i : Nat} {o : Oper} (hc : G.cond ws i o = true) : CondOk G ws i o := by
  unfold Rg.cond at hc
  simp only [Bool.and_eq_true, decide_eq_true_eq, Bool.not_eq_true'] at hc
  obtain ⟨⟨⟨⟨h1, h2⟩, h3⟩, h4⟩, h5⟩ := hc
  exact ⟨fun j hj => and_bit h1 hj, fun f hf => and_bit h2 hf, h3, h4, h5⟩
theorem Rg.Inv.isNew {i : Nat} (I : G.Inv B ws S st ky D a w ρ) (hn : ws.done.testBit i = false) : lkp ws.loc i = none := by
  cases hl : lkp ws.loc i with
  | none => rfl
  | some r => have := (I.hd i).2 ⟨r, hl⟩; rw [hn] at this; cases this
/-- one operation more, that turns nothing -/
theorem Rg.Inv.more {i : Nat} {o : Oper} {r : Ref} (I : G.Inv B ws S st ky D a w ρ) (ho : G.ops[i]? = some o) (C : CondOk G ws i o) (U : Up ws st S.e i r ws' st') (hd' : ws'.done = ws.done ||| 2 ^ i) (hf' : ws'.effm = ws.effm) (hle : ws.h ≤ ws'.h) (hlen : st'.length = ws'.h) (hrok : r.ok ws'.h)
    (he : S'.e = S.e) (hds : S'.ds = S.ds) (hg : ∀ k, hat S'.h k = hat S.h k ∨ (hat S.h k = .no ∧ S.nx.val ≤ k.val)) (hnx : S.nx.val ≤ S'.nx.val) (hrel : Rel ρ S'.h S'.nx w)
    (hky : ∀ j, j ≠ i → ky' j = ky j) (hki : ∀ k, ky' i = some k → S.nx.val ≤ k.val ∧ k.val < S'.nx.val) (hfact : G.Fact ws' S' st' B.nx ky' ρ i o r) : G.Inv B ws' S' st' ky' D a w ρ := by
  have hcase : ∀ j q, lkp ws'.loc j = some q → (j = i ∧ q = r) ∨ (j ≠ i ∧ lkp ws.loc j = some q) := by
    intro j q hj
    rw [U.loc, lkp_cons] at hj
    split at hj
    · rename_i e; exact .inl ⟨e, (Option.some.inj hj).symm⟩
    · rename_i e; exact .inr ⟨e, hj⟩
  refine { len := hlen, ok := ?_, hd := ?_, he := fun f hf => I.he f (by rw [← hf']; exact hf), cl := ?_, dst := ?_, rel := hrel, ext := ?_, sub := ?_, clo := I.clo, put := ?_, size := I.size, keep := I.keep, env := by rw [he]; exact I.env, ds := by rw [hds]; exact I.ds, fact := ?_, kinj := ?_, klt := ?_ }
  · intro j q hj
    rcases hcase j q hj with ⟨rfl, rfl⟩ | ⟨_, hj⟩
    · exact hrok
    · exact Ref.ok_le hle (I.ok j q hj)
  · intro j
    rw [hd', or_bit]
    constructor
    · intro hj
      simp at hj
      rcases hj with hj | rfl
      · obtain ⟨q, hq⟩ := (I.hd j).1 hj; exact ⟨q, U.lkp hq⟩
      · exact ⟨r, by rw [U.loc, lkp_cons, if_pos rfl]⟩
    · rintro ⟨q, hq⟩
      simp
      rcases hcase j q hq with ⟨rfl, _⟩ | ⟨_, hj⟩
      · exact .inr rfl
      · exact .inl ((I.hd j).2 ⟨q, hj⟩)
  · intro j q hj k hk
    rcases hcase j q hj with ⟨rfl, _⟩ | ⟨_, hj⟩
    · obtain ⟨q', hq'⟩ := (I.hd k).1 (C.bef k hk); exact ⟨q', U.lkp hq'⟩
    · obtain ⟨q', hq'⟩ := I.cl j q hj k hk; exact ⟨q', U.lkp hq'⟩
  · intro j q hj
    rcases hcase j q hj with ⟨rfl, _⟩ | ⟨_, hj⟩
    · exact ⟨o, ho, C.dst, C.grd⟩
    · exact I.dst j q hj
  · have hx := I.ext
    exact ⟨hx.le, Nat.le_trans hx.nxle hnx, hx.os, hx.tape, hx.output, hx.size, hx.kept, hx.born⟩
  · intro j hj
    obtain ⟨q, hq⟩ := I.sub j hj
    exact ⟨q, U.lkp hq⟩
  · intro j hj oj q d hoj hd hlj
    obtain ⟨q', hq'⟩ := I.sub j hj
    have : q' = q := by have := U.lkp hq'; rw [hlj] at this; exact (Option.some.inj this).symm
    subst this
    rw [he, U.rv _ (I.ok j _ hq')]
    exact I.put j hj oj _ d hoj hd hq'
  · intro j q hj hjD
    rcases hcase j q hj with ⟨rfl, rfl⟩ | ⟨_, hj⟩
    · exact ⟨o, ho, hfact⟩
    · exact I.facts U he hg hky j q hj hjD
  · intro j j' k h1 h2
    by_cases e1 : j = i
    · by_cases e2 : j' = i
      · rw [e1, e2]
      · subst e1
        rw [hky j' e2] at h2
        have := (I.klt j' k h2).1
        have := (hki k h1).1
        omega
    · by_cases e2 : j' = i
      · subst e2
        rw [hky j e1] at h1
        have := (I.klt j k h1).1
        have := (hki k h2).1
        omega
      · rw [hky j e1] at h1
        rw [hky j' e2] at h2
        exact I.kinj j j' k h1 h2
  · intro j k hj
    by_cases e1 : j = i
    · subst e1
      exact ⟨(hki k hj).2, r, by rw [U.loc, lkp_cons, if_pos rfl]⟩
    · rw [hky j e1] at hj
      obtain ⟨h1, q, hq⟩ := I.klt j k hj
      exact ⟨by omega, q, U.lkp hq⟩
theorem rv_top (v : AV) (st : List AV) (e : Env) : rv (v :: st) e (.a st.length) = v := by
  show ((v :: st).reverse[st.length]?).getD (.k .bad) = v
  rw [List.reverse_cons, List.getElem?_append_right (by simp)]
  simp
theorem Rg.Inv.up {i : Nat} (I : G.Inv B ws S st ky D a w ρ) (hn : ws.done.testBit i = false) (b : Bool) (v : AV) : Up ws st S.e i (.a ws.h) (ws.push i b) (v :: st) :=
  ⟨rfl, I.isNew hn, fun _ hq => rv_push (by rw [I.len]; exact hq)⟩
/-- an alias -/
theorem Rg.Inv.alias {i : Nat} {o : Oper} {x : Operand} {r : Ref} (I : G.Inv B ws S st ky D a w ρ) (ho : G.ops[i]? = some o) (C : CondOk G ws i o) (ha : isAlias o = some x) (hr : G.res ws i x = some r) (hky : ky i = none) : G.Inv B (ws.add i r) S st ky D a w ρ := by
  have U : Up ws st S.e i r (ws.add i r) st := ⟨rfl, I.isNew C.new, fun _ _ => rfl⟩
  have hb : ∀ j, G.bef i j = true → ∃ q, lkp ws.loc j = some q := fun j hj => (I.hd j).1 (C.bef j hj)
  have hrok := Rg.res_ok I.ok hr
  refine I.more (S' := S) ho C U rfl rfl (Nat.le_refl _) I.len hrok rfl rfl (fun k => .inl rfl) (Nat.le_refl _) I.rel (fun _ _ => rfl) (fun k hk => by rw [hky] at hk; cases hk) ?_
  obtain ⟨ds, op, ty, pos, af, gd⟩ := o
  unfold isAlias at ha
  split at ha
  · rename_i x' hgd hop
    simp only at hgd hop
    subst hgd hop
    cases ha
    exact .rd (by unfold Rg.Wanted; trivial) rfl fun ρ' nx' w' ac _ hg => ⟨_, rfl, hg x r (by rw [U.res hb]; exact hr)⟩
  · rename_i x' hgd hop
    simp only at hgd hop
    subst hgd hop
    cases ha
    exact .rd (by unfold Rg.Wanted; trivial) rfl fun ρ' nx' w' ac _ hg => ⟨_, rfl, hg x r (by rw [U.res hb]; exact hr)⟩
  · cases ha
/-- a guard that is not met -/
theorem Rg.Inv.miss {i : Nat} {o : Oper} (I : G.Inv B ws S st ky D a w ρ) (ho : G.ops[i]? = some o) (C : CondOk G ws i o) (hu : G.Unwanted ws o st S.e) (hky : ky i = none) : G.Inv B (ws.push i false) S (.k .u :: st) ky D a w ρ := by
  have U := I.up C.new false (.k .u)
  refine I.more (S' := S) ho C U rfl rfl (Nat.le_succ _) (by show st.length + 1 = ws.h + 1; rw [I.len]) (Nat.lt_succ_self _) rfl rfl (fun k => .inl rfl) (Nat.le_refl _) I.rel (fun _ _ => rfl) (fun k hk => by rw [hky] at hk; cases hk) ?_
  exact .un (U.unwanted I.ok hu) (by rw [← I.len]; exact rv_top _ _ _)
/-- a reading operation -/
theorem Rg.Inv.read {i : Nat} {o : Oper} {ri : RI} {K : AV → Bool} (hix : IxOk G.P G.ix) (I : G.Inv B ws S st ky D a w ρ) (ho : G.ops[i]? = some o) (C : CondOk G ws i o) (hw : G.Wanted ws o st S.e) (hc : cR G.P G.ix (G.rs ws i ws.h) o = some ri) (hh : evR ri st S.e S.h K = true) (hky : ky i = none) :
    ∃ v, K v = true ∧ G.Inv B (ws.push i false) S (v :: st) ky D a w ρ := by
  obtain ⟨v, h1, h2⟩ := cR_ok hix hc hh
  have U := I.up C.new false v
  have hb : ∀ j, G.bef i j = true → ∃ q, lkp ws.loc j = some q := fun j hj => (I.hd j).1 (C.bef j hj)
  refine ⟨v, h1, ?_⟩
  refine I.more (S' := S) ho C U rfl rfl (Nat.le_succ _) (by show st.length + 1 = ws.h + 1; rw [I.len]) (Nat.lt_succ_self _) rfl rfl (fun k => .inl rfl) (Nat.le_refl _) I.rel (fun _ _ => rfl) (fun k hk => by rw [hky] at hk; cases hk) ?_
  refine .rd (U.wanted I.ok hw) ?_ ?_
  · cases hm : isMk G.P o with
    | false => rfl
    | true => rw [isMk_cR hm] at hc; cases hc
  · rw [← I.len, rv_top]
    intro ρ' nx' w' ac hr hg
    exact h2 ρ' nx' w' ac (fun hrd => hr (reads_rdOf hc hrd)) ((hg.back U I.ok hb).good I.len I.ok)
/-- a making operation -/
theorem Rg.Inv.make {i : Nat} {o : Oper} {ai : AI} {ih : IH} {K : KR} (I : G.Inv B ws S st ky D a w ρ) (ho : G.ops[i]? = some o) (C : CondOk G ws i o) (hw : G.Wanted ws o st S.e) (hc : cA G.P (G.rs ws i ws.h) o = some ai) (hh : iA ai ih S K st = true) :
    ∃ v S' ky', ih S' K (v :: st) = true ∧ S'.call = S.call ∧ (∀ j, j ≠ i → ky' j = ky j) ∧ S'.e = S.e ∧ G.Inv B (ws.push i false) S' (v :: st) ky' D a w ρ := by
  obtain ⟨ob, mk, h1, h2⟩ := cA_ok hc (show evA ai st S.e (ia0 ih S K st) = true from hh)
  have h1 : new ob S (ia1 mk ih K st) = true := h1
  have hno := (new_no h1).1
  obtain ⟨h', nx', e1, e2, e3⟩ := new_inv h1
  obtain ⟨hkk, e3⟩ := ifb_true (show ifb (keyOf (mk S.nx) (kqk S.nx)) (frcV (mk S.nx) (psh ih (S.setHn h' nx') K st)) false = true from e3)
  obtain ⟨_, e4⟩ := frcV_inv e3
  have e4 : ih (S.setHn h' nx') K (mk S.nx :: st) = true := e4
  have hne : ky i = none := by
    cases hk : ky i with
    | none => rfl
    | some k => obtain ⟨_, q, hq⟩ := I.klt i k hk; rw [I.isNew C.new] at hq; cases hq
  refine ⟨mk S.nx, S.setHn h' nx', fun j => if j = i then some S.nx else ky j, e4, St.setHn_call .., fun j hj => if_neg hj, St.setHn_e .., ?_⟩
  have U := I.up C.new false (mk S.nx)
  have hb : ∀ j, G.bef i j = true → ∃ q, lkp ws.loc j = some q := fun j hj => (I.hd j).1 (C.bef j hj)
  refine I.more (S' := S.setHn h' nx') ho C U rfl rfl (Nat.le_succ _) (by show st.length + 1 = ws.h + 1; rw [I.len]) (Nat.lt_succ_self _) (St.setHn_e ..) (St.setHn_ds ..) ?_ ?_ ?_ (fun j hj => if_neg hj) ?_ ?_
  · intro k
    rw [St.setHn_h, e1]
    by_cases hk : k = S.nx
    · subst hk; exact .inr ⟨hno, Nat.le_refl _⟩
    · rw [if_neg hk]; exact .inl rfl
  · rw [St.setHn_nx]; omega
  · rw [St.setHn_h, St.setHn_nx]; exact I.rel.grow e1 (by omega)
  · intro k hk
    simp at hk
    subst hk
    rw [St.setHn_nx]; omega
  · refine .mk (by rw [St.setHn_e]; exact U.wanted I.ok hw) (cA_isMk hc) S.nx mk (if_pos rfl) (by rw [← I.len, rv_top]) hkk I.rel.notYet I.ext.nxle ?_
    rw [St.setHn_h, St.setHn_e, e1, if_pos rfl]
    intro ρ' w' ac k hg
    exact h2 ρ' w' ac k ((hg.back U I.ok hb).good I.len I.ok)
end
end Go.Ev
set_option linter.constructorNameAsVariable false
namespace Go.Ev
open Go
variable {w : World} {ρ : Ren} {h : Heap} {nx : BK}
section
variable {G : Rg} {B : Beg} {ws ws' : Ws} {S S' : St} {st st' : List AV} {ky ky' : Nat → Option BK} {D : List Nat} {a : Act} {e : Env}
theorem isAlias_rd {o : Oper} (ha : (isAlias o).isSome = true) : rdOf G.P o = false ∧ isMk G.P o = false := by
  obtain ⟨ds, op, ty, pos, af, gd⟩ := o
  unfold isAlias at ha
  split at ha
  · rename_i hop; simp only at hop; subst hop; exact ⟨rfl, rfl⟩
  · rename_i hop; simp only at hop; subst hop; exact ⟨rfl, rfl⟩
  · cases ha
theorem rd_cA {o : Oper} {R : Rs} (hr : rdOf G.P o = true) : cA G.P R o = none := by
  cases hc : cA G.P R o with
  | none => rfl
  | some i => rw [isMk_rdOf (cA_isMk hc)] at hr; cases hr
theorem cks_r (hix : IxOk G.P G.ix) {i : Nat} {b : Bool} : ∀ {l : List (Nat × Ref)} {ck : List (RI × X)} {ca : List (AI × X)}, G.cks ws i l = some (ck, ca) → chkR ck st e h b = true →
    b = true ∧ ∀ j r, (j, r) ∈ l → G.bef i j = false → ∀ o, G.ops[j]? = some o → rdOf G.P o = true → o.guard = none ∧ RSem G.P o (G.rs ws j (ws.h + 1)) st e true h (opd (r.x (ws.h + 1)) st e) := by
  intro l
  induction l with
  | nil =>
    intro ck ca hc hk
    cases hc
    exact ⟨hk, fun j r hj => by cases hj⟩
  | cons q l ih =>
    intro ck ca hc hk
    obtain ⟨j, r⟩ := q
    obtain ⟨cs, hcs, hc⟩ := Option.bind_eq_some_iff.1 (show (G.cks ws i l).bind _ = some (ck, ca) from hc)
    obtain ⟨ck0, ca0⟩ := cs
    have skip : chkR ck0 st e h b = true → (G.bef i j = false → ∀ o, G.ops[j]? = some o → rdOf G.P o = true → o.guard = none ∧ RSem G.P o (G.rs ws j (ws.h + 1)) st e true h (opd (r.x (ws.h + 1)) st e)) →
        b = true ∧ ∀ j' r', (j', r') ∈ (j, r) :: l → G.bef i j' = false → ∀ o, G.ops[j']? = some o → rdOf G.P o = true → o.guard = none ∧ RSem G.P o (G.rs ws j' (ws.h + 1)) st e true h (opd (r'.x (ws.h + 1)) st e) := by
      intro h1 h2
      obtain ⟨h3, h4⟩ := ih hcs h1
      refine ⟨h3, fun j' r' hj => ?_⟩
      rcases List.mem_cons.1 hj with e1 | hj
      · cases e1; exact h2
      · exact h4 j' r' hj
    split at hc
    · rename_i hb
      cases hc
      exact skip hk (fun hb' => by rw [hb] at hb'; cases hb')
    · obtain ⟨o, ho, hc⟩ := Option.bind_eq_some_iff.1 hc
      split at hc
      · rename_i ha
        cases hc
        refine skip hk (fun _ o' ho' hr => ?_)
        rw [ho] at ho'
        obtain rfl := Option.some.inj ho'
        rw [(isAlias_rd (G := G) ha).1] at hr
        cases hr
      · split at hc
        · rename_i ri hri
          split at hc
          · split at hc
            · rename_i hgd
              cases hc
              have hk : evR ri st e h (cr1 (opd (r.x (ws.h + 1)) st e) (chkR ck0 st e h b)) = true := hk
              obtain ⟨v, h1, h2⟩ := cR_ok hix hri hk
              obtain ⟨h1, h3⟩ := ifb_true (show ifb (same v (opd (r.x (ws.h + 1)) st e)) (chkR ck0 st e h b) false = true from h1)
              refine skip h3 (fun _ o' ho' hr => ?_)
              rw [ho] at ho'
              obtain rfl := Option.some.inj ho'
              refine ⟨by simpa using hgd, ?_⟩
              rw [← same_eq h1]
              exact fun ρ nx w ac hrel hg => h2 ρ nx w ac (fun _ => hrel rfl) hg
            · cases hc
          · rename_i hrd
            cases hc
            refine skip hk (fun _ o' ho' hr => ?_)
            rw [ho] at ho'
            obtain rfl := Option.some.inj ho'
            exact absurd hr hrd
        · split at hc
          · rename_i ai hai
            split at hc
            · cases hc
              refine skip hk (fun _ o' ho' hr => ?_)
              rw [ho] at ho'
              obtain rfl := Option.some.inj ho'
              rw [rd_cA hr] at hai
              cases hai
            · cases hc
          · cases hc
theorem cks_a {i : Nat} {b : Bool} : ∀ {l : List (Nat × Ref)} {ck : List (RI × X)} {ca : List (AI × X)}, G.cks ws i l = some (ck, ca) → chkA ca st e h b = true →
    b = true ∧ ∀ j r, (j, r) ∈ l → G.bef i j = false → ∀ o, G.ops[j]? = some o → isMk G.P o = true → o.guard = none ∧ ∀ k, keyOf (opd (r.x (ws.h + 1)) st e) (kqk k) = true →
      ∃ mk, opd (r.x (ws.h + 1)) st e = mk k ∧ ASem G.P o (G.rs ws j (ws.h + 1)) st e (hat h k) mk := by
  intro l
  induction l with
  | nil =>
    intro ck ca hc hk
    cases hc
    exact ⟨hk, fun j r hj => by cases hj⟩
  | cons q l ih =>
    intro ck ca hc hk
    obtain ⟨j, r⟩ := q
    obtain ⟨cs, hcs, hc⟩ := Option.bind_eq_some_iff.1 (show (G.cks ws i l).bind _ = some (ck, ca) from hc)
    obtain ⟨ck0, ca0⟩ := cs
    have skip : chkA ca0 st e h b = true → (G.bef i j = false → ∀ o, G.ops[j]? = some o → isMk G.P o = true → o.guard = none ∧ ∀ k, keyOf (opd (r.x (ws.h + 1)) st e) (kqk k) = true →
        ∃ mk, opd (r.x (ws.h + 1)) st e = mk k ∧ ASem G.P o (G.rs ws j (ws.h + 1)) st e (hat h k) mk) →
        b = true ∧ ∀ j' r', (j', r') ∈ (j, r) :: l → G.bef i j' = false → ∀ o, G.ops[j']? = some o → isMk G.P o = true → o.guard = none ∧ ∀ k, keyOf (opd (r'.x (ws.h + 1)) st e) (kqk k) = true →
          ∃ mk, opd (r'.x (ws.h + 1)) st e = mk k ∧ ASem G.P o (G.rs ws j' (ws.h + 1)) st e (hat h k) mk := by
      intro h1 h2
      obtain ⟨h3, h4⟩ := ih hcs h1
      refine ⟨h3, fun j' r' hj => ?_⟩
      rcases List.mem_cons.1 hj with e1 | hj
      · cases e1; exact h2
      · exact h4 j' r' hj
    split at hc
    · rename_i hb
      cases hc
      exact skip hk (fun hb' => by rw [hb] at hb'; cases hb')
    · obtain ⟨o, ho, hc⟩ := Option.bind_eq_some_iff.1 hc
      split at hc
      · rename_i ha
        cases hc
        refine skip hk (fun _ o' ho' hr => ?_)
        rw [ho] at ho'
        obtain rfl := Option.some.inj ho'
        rw [(isAlias_rd (G := G) ha).2] at hr
        cases hr
      · split at hc
        · rename_i ri hri
          have no : ∀ o', G.ops[j]? = some o' → isMk G.P o' = true → False := by
            intro o' ho' hr
            rw [ho] at ho'
            obtain rfl := Option.some.inj ho'
            rw [isMk_cR hr] at hri
            cases hri
          split at hc
          · split at hc
            · cases hc
              exact skip hk (fun _ o' ho' hr => (no o' ho' hr).elim)
            · cases hc
          · cases hc
            exact skip hk (fun _ o' ho' hr => (no o' ho' hr).elim)
        · split at hc
          · rename_i ai hai
            split at hc
            · rename_i hgd
              cases hc
              have hk : evA ai st e (ca1 (opd (r.x (ws.h + 1)) st e) h (chkA ca0 st e h b)) = true := hk
              obtain ⟨ob, mk, h1, h2⟩ := cA_ok hai hk
              have h1 : keyOf (opd (r.x (ws.h + 1)) st e) (ca3 (opd (r.x (ws.h + 1)) st e) h ob mk (chkA ca0 st e h b)) = true := h1
              have two : ∀ (v : AV) (K K' : BK → Bool), keyOf v K = true → keyOf v K' = true → ∃ k, K k = true ∧ K' k = true := by
                intro v K K' h1 h2
                cases v <;> first | (cases h1; done) | exact ⟨_, h1, h2⟩
              obtain ⟨k0, hk0⟩ := keyOf_inv h1
              obtain ⟨_, hk1⟩ := ifb_true (show ifb (sameOb ob (hat h k0)) (ifb (same (opd (r.x (ws.h + 1)) st e) (mk k0)) (chkA ca0 st e h b) false) false = true from hk0)
              obtain ⟨_, hk2⟩ := ifb_true hk1
              refine skip hk2 (fun _ o' ho' _ => ?_)
              rw [ho] at ho'
              obtain rfl := Option.some.inj ho'
              refine ⟨by simpa using hgd, fun k hkk => ?_⟩
              obtain ⟨k1, q1, q2⟩ := two _ _ _ hkk h1
              have q1 : decide (k = k1) = true := q1
              simp at q1
              subst q1
              obtain ⟨r1, r2⟩ := ifb_true (show ifb (sameOb ob (hat h k)) (ifb (same (opd (r.x (ws.h + 1)) st e) (mk k)) (chkA ca0 st e h b) false) false = true from q2)
              obtain ⟨r2, _⟩ := ifb_true r2
              refine ⟨mk, same_eq r2, ?_⟩
              rw [← sameOb_eq r1]
              exact h2
            · cases hc
          · cases hc
theorem lkp_mem {α : Type} : ∀ {l : List (Nat × α)} {i : Nat} {r : α}, lkp l i = some r → (i, r) ∈ l := by
  intro l
  induction l with
  | nil => intro i r hh; cases hh
  | cons q l ih =>
    intro i r hh
    obtain ⟨j, s⟩ := q
    rw [lkp_cons] at hh
    split at hh
    · rename_i e1; cases hh; rw [e1]; exact List.mem_cons_self ..
    · exact List.mem_cons_of_mem _ (ih hh)
/-- an effect is done, or left out -/
theorem Rg.Inv.next {i : Nat} {o : Oper} {v : AV} {c : Value} {w' : World} {ρ' : Ren} {ds : List Deferred} (I : G.Inv B ws S st ky D a w ρ) (ho : G.ops[i]? = some o) (C : CondOk G ws i o) (hiD : i ∉ D) (hr : ∀ j, G.bef i j = true → j ∈ D) (b : Bool)
    (he : S'.e = S.e) (hv : V ρ' v c) (hrel : Rel ρ' S'.h S'.nx w') (hext : Ext ρ S.nx w ρ' S'.nx w') (hds : DsR ρ' S'.ds ds)
    (hfact : ∀ j q, j ≠ i → lkp ws.loc j = some q → j ∉ D → ∃ oj, G.ops[j]? = some oj ∧ G.Fact (ws.push i b) S' (v :: st) B.nx ky ρ' j oj q) :
    G.Inv B (ws.push i b) S' (v :: st) ky (i :: D) ({ a with defers := ds }.put o.dst c) w' ρ' := by
  have U := I.up C.new b v
  have hcase : ∀ j q, lkp (ws.push i b).loc j = some q → (j = i ∧ q = .a ws.h) ∨ (j ≠ i ∧ lkp ws.loc j = some q) := by
    intro j q hj
    rw [U.loc, lkp_cons] at hj
    split at hj
    · rename_i e; exact .inl ⟨e, (Option.some.inj hj).symm⟩
    · rename_i e; exact .inr ⟨e, hj⟩
  have hnew : lkp (ws.push i b).loc i = some (.a ws.h) := by rw [U.loc, lkp_cons, if_pos rfl]
  refine { len := by show st.length + 1 = ws.h + 1; rw [I.len], ok := ?_, hd := ?_, he := ?_, cl := ?_, dst := ?_, rel := hrel, ext := I.ext.trans hext, sub := ?_, clo := ?_, put := ?_, size := ?_, keep := ?_, env := by rw [he]; exact I.env, ds := by rw [put_defers]; exact hds, fact := ?_, kinj := I.kinj, klt := ?_ }
  · intro j q hj
    rcases hcase j q hj with ⟨rfl, rfl⟩ | ⟨_, hj⟩
    · exact Nat.lt_succ_self _
    · exact Ref.ok_le (Nat.le_succ _) (I.ok j q hj)
  · intro j
    show (ws.done ||| 2 ^ i).testBit j = true ↔ _
    rw [or_bit]
    constructor
    · intro hj
      simp at hj
      rcases hj with hj | rfl
      · obtain ⟨q, hq⟩ := (I.hd j).1 hj; exact ⟨q, U.lkp hq⟩
      · exact ⟨_, hnew⟩
    · rintro ⟨q, hq⟩
      simp
      rcases hcase j q hq with ⟨rfl, _⟩ | ⟨_, hj⟩
      · exact .inr rfl
      · exact .inl ((I.hd j).2 ⟨q, hj⟩)
  · intro f hf
    have hf : (if b then ws.effm ||| 2 ^ i else ws.effm).testBit f = true := hf
    split at hf
    · rw [or_bit] at hf
      simp at hf
      rcases hf with hf | rfl
      · exact List.mem_cons_of_mem _ (I.he f hf)
      · exact List.mem_cons_self ..
    · exact List.mem_cons_of_mem _ (I.he f hf)
  · intro j q hj k hk
    rcases hcase j q hj with ⟨rfl, _⟩ | ⟨_, hj⟩
    · obtain ⟨q', hq'⟩ := (I.hd k).1 (C.bef k hk); exact ⟨q', U.lkp hq'⟩
    · obtain ⟨q', hq'⟩ := I.cl j q hj k hk; exact ⟨q', U.lkp hq'⟩
  · intro j q hj
    rcases hcase j q hj with ⟨rfl, _⟩ | ⟨_, hj⟩
    · exact ⟨o, ho, C.dst, C.grd⟩
    · exact I.dst j q hj
  · intro j hj
    rcases List.mem_cons.1 hj with rfl | hj
    · exact ⟨_, hnew⟩
    · obtain ⟨q, hq⟩ := I.sub j hj; exact ⟨q, U.lkp hq⟩
  · intro j hj k hjk
    rcases List.mem_cons.1 hj with rfl | hj
    · exact List.mem_cons_of_mem _ (hr k hjk)
    · exact List.mem_cons_of_mem _ (I.clo j hj k hjk)
  · intro j hj oj q d hoj hd hlj
    rcases List.mem_cons.1 hj with rfl | hj'
    · rw [ho] at hoj
      obtain rfl := Option.some.inj hoj
      rw [hnew] at hlj
      obtain rfl := Option.some.inj hlj
      have hlt : d < ({ a with defers := ds } : Act).tmps.size := by
        have g1 := C.dst
        unfold Rg.dstOk at g1
        rw [hd] at g1
        simp at g1
        show d < a.tmps.size
        rw [I.size]; exact g1.1
      rw [hd, put_same hlt, ← I.len, rv_top]
      exact hv
    · obtain ⟨q', hq'⟩ := I.sub j hj'
      have : q' = q := by have := U.lkp hq'; rw [hlj] at this; exact (Option.some.inj this).symm
      subst this
      have hne : o.dst ≠ some d := by
        intro hd'
        have h1 := (I.wr hj' hoj hd).2
        have g1 := C.dst
        unfold Rg.dstOk at g1
        rw [hd'] at g1
        simp at g1
        rw [h1] at g1
        obtain rfl := Option.some.inj g1.2
        exact hiD hj'
      rw [put_other hne, he, U.rv _ (I.ok j _ hq')]
      exact (I.put j hj' oj _ d hoj hd hq').mono hext.le
  · rw [put_size]; exact I.size
  · intro t ht
    rw [put_other (ht i (List.mem_cons_self ..) o ho)]
    exact I.keep t fun j hj => ht j (List.mem_cons_of_mem _ hj)
  · intro j q hj hjD
    have hji : j ≠ i := fun e => hjD (by rw [e]; exact List.mem_cons_self ..)
    have hjD' : j ∉ D := fun e => hjD (List.mem_cons_of_mem _ e)
    rcases hcase j q hj with ⟨e1, _⟩ | ⟨_, hj⟩
    · exact absurd e1 hji
    · exact hfact j q hji hj hjD'
  · intro j k hj
    obtain ⟨h1, q, hq⟩ := I.klt j k hj
    have := hext.nxle
    exact ⟨by omega, q, U.lkp hq⟩
end
end Go.Ev
set_option linter.constructorNameAsVariable false
namespace Go.Ev
open Go
variable {w : World} {ρ : Ren} {h : Heap} {nx : BK}
section
variable {G : Rg} {B : Beg} {ws ws' : Ws} {S S' : St} {st st' : List AV} {ky ky' : Nat → Option BK} {D : List Nat} {a : Act} {e : Env}
theorem Ext.none_left {ρ ρ' : Ren} {nx nx' : BK} {w w' : World} (hx : Ext ρ nx w ρ' nx' w') {k : BK} (hk : ρ k = none) (hlt : k.val < nx.val) : ρ' k = none := by
  cases hq : ρ' k with
  | none => rfl
  | some L =>
    rcases hx.born k L hq with h1 | ⟨h1, _⟩
    · rw [hk] at h1; cases h1
    · omega
/-- what was known is known behind an effect too -/
theorem Rg.Inv.anew {i : Nat} {o : Oper} {v : AV} {w' : World} {ρ' : Ren} {ck : List (RI × X)} {ca : List (AI × X)} {bb : Bool} (hix : IxOk G.P G.ix) (I : G.Inv B ws S st ky D a w ρ) (C : CondOk G ws i o) (hr : ∀ j, G.bef i j = true → j ∈ D)
    (he : S'.e = S.e) (hext : Ext ρ S.nx w ρ' S'.nx w') (hc : G.cks ws i ws.loc = some (ck, ca)) (hk : chkR ck (v :: st) S'.e S'.h (chkA ca (v :: st) S'.e S'.h bb) = true) (b : Bool) :
    bb = true ∧ ∀ j q, j ≠ i → lkp ws.loc j = some q → j ∉ D → ∃ oj, G.ops[j]? = some oj ∧ G.Fact (ws.push i b) S' (v :: st) B.nx ky ρ' j oj q := by
  obtain ⟨hk2, hR⟩ := cks_r hix hc hk
  obtain ⟨hk3, hA⟩ := cks_a hc hk2
  refine ⟨hk3, fun j q hji hj hjD => ?_⟩
  have U := I.up C.new b v
  obtain ⟨oj, hoj, F⟩ := I.fact j q hj hjD
  have hbj : G.bef i j = false := by
    cases hb : G.bef i j with
    | false => rfl
    | true => exact absurd (hr j hb) hjD
  have hq := U.rv q (I.ok j q hj)
  have hok1 : ∀ i r, lkp ws.loc i = some r → r.ok (ws.h + 1) := fun i r hr => Ref.ok_le (Nat.le_succ _) (I.ok i r hr)
  have hlen : (v :: st).length = ws.h + 1 := by show st.length + 1 = ws.h + 1; rw [I.len]
  have hx : opd (q.x (ws.h + 1)) (v :: st) S'.e = rv (v :: st) S'.e q := opd_x hlen (hok1 j q hj)
  have good : ∀ {ρ' : Ren} {ac : Act}, G.GoodR ρ' (ws.push i b) j (v :: st) S'.e ac → Good ρ' (G.rs ws j (ws.h + 1)) (v :: st) S'.e ac := by
    intro ρ' ac hg x y hy
    obtain ⟨r, hr', rfl⟩ := Option.map_eq_some_iff.1 hy
    rw [opd_x hlen (Rg.res_ok hok1 hr')]
    exact hg x r (by rw [U.res (I.cl j q hj)]; exact hr')
  refine ⟨oj, hoj, ?_⟩
  cases F with
  | un h1 h2 => exact .un (by rw [he]; exact U.unwanted I.ok h1) (by rw [he, hq]; exact h2)
  | rd h1 h2 h3 =>
    refine .rd (by rw [he]; exact U.wanted I.ok h1) h2 ?_
    cases hrd : rdOf G.P oj with
    | false =>
      rw [he, hq]
      intro ρ2 nx2 w2 ac _ hg
      exact h3 ρ2 nx2 w2 ac (fun hrd' => by rw [hrd] at hrd'; cases hrd') (hg.back U I.ok (I.cl j q hj))
    | true =>
      obtain ⟨_, g2⟩ := hR j q (lkp_mem hj) hbj oj hoj hrd
      rw [hx] at g2
      intro ρ2 nx2 w2 ac hrel hg
      exact g2 ρ2 nx2 w2 ac (fun _ => hrel hrd) (good hg)
  | mk h1 h2 k m h3 h4 hkk h5 h6 h7 =>
    obtain ⟨_, g2⟩ := hA j q (lkp_mem hj) hbj oj hoj h2
    rw [hx] at g2
    obtain ⟨m', g3, g4⟩ := g2 k (by rw [he, hq, h4]; exact hkk)
    refine .mk (by rw [he]; exact U.wanted I.ok h1) h2 k m' h3 g3 ?_ (hext.none_left h5 (I.klt j k h3).1) h6 ?_
    · rw [← g3, he, hq, h4]; exact hkk
    · intro ρ2 w2 ac k2 hg
      exact g4 ρ2 w2 ac k2 (good hg)
theorem grd_inv {v : AV} {want Y N : Bool} (hh : grd v want Y N = true) : (v = .b want ∧ Y = true) ∨ (((∃ t, v = .b t ∧ t ≠ want) ∨ v = .k .u) ∧ N = true) := by
  cases v with
  | b t =>
    have hh : ifb (eqb t want) Y N = true := hh
    rw [ifb_eq, eqb_eq] at hh
    by_cases ht : t = want
    · subst ht; simp at hh; exact .inl ⟨rfl, hh⟩
    · simp [ht] at hh; exact .inr ⟨.inl ⟨t, rfl, ht⟩, hh⟩
  | k c => cases c <;> first | (cases hh; done) | exact .inr ⟨.inr rfl, hh⟩
  | _ => cases hh
/-- what holds where a region ends in a panic -/
structure Rg.Pn (G : Rg) (B : Beg) (S : St) (a : Act) (w : World) (ρ : Ren) : Prop where
  rel : Rel ρ S.h S.nx w
  ext : Ext B.ρ B.nx B.w ρ S.nx w
  size : a.tmps.size = G.nt
  keep : ∀ t, (∀ (i : Nat) (o : Oper), G.ops[i]? = some o → o.dst ≠ some t) → a.tmps.getD t undef = B.a.tmps.getD t undef
  ds : DsR ρ S.ds a.defers
theorem walk_eff : ∀ {l : List Nat} {ws wsE : Ws} {its : List It}, G.walk l ws = some (its, wsE) → ∀ f, ws.effm.testBit f = true → ∀ i ∈ l, G.bef i f = true := by
  intro l
  induction l with
  | nil => intro ws wsE its _ f _ i hi; cases hi
  | cons j l ih =>
    intro ws wsE its hw f hf i hi
    obtain ⟨s, hs, hw⟩ := Option.bind_eq_some_iff.1 (show (G.step ws j).bind _ = some (its, wsE) from hw)
    obtain ⟨q, hq, _⟩ := Option.map_eq_some_iff.1 hw
    obtain ⟨o, ho, hs⟩ := Option.bind_eq_some_iff.1 (show (G.ops[j]?).bind _ = some s from hs)
    split at hs
    · rename_i hc
      have C := cond_ok hc
      rcases List.mem_cons.1 hi with rfl | hi
      · exact C.eff f hf
      · refine ih hq f ?_ i hi
        split at hs
        · obtain ⟨r, _, rfl⟩ := Option.map_eq_some_iff.1 hs
          exact hf
        · obtain ⟨b, _, hs⟩ := Option.bind_eq_some_iff.1 hs
          obtain ⟨it, _, hs⟩ := Option.bind_eq_some_iff.1 hs
          obtain ⟨it', _, rfl⟩ := Option.map_eq_some_iff.1 hs
          show (if isE b then ws.effm ||| 2 ^ j else ws.effm).testBit f = true
          split
          · rw [or_bit, hf]; rfl
          · exact hf
    · cases hs
theorem walk_all : ∀ {l : List Nat} {ws wsE : Ws} {its : List It}, G.walk l ws = some (its, wsE) → ∀ i, wsE.done.testBit i = true → ws.done.testBit i = true ∨ i ∈ l := by
  intro l
  induction l with
  | nil => intro ws wsE its hw i hi; cases hw; exact .inl hi
  | cons j l ih =>
    intro ws wsE its hw i hi
    obtain ⟨s, hs, hw⟩ := Option.bind_eq_some_iff.1 (show (G.step ws j).bind _ = some (its, wsE) from hw)
    obtain ⟨q, hq, hw⟩ := Option.map_eq_some_iff.1 hw
    have hE : q.2 = wsE := by
      have := congrArg Prod.snd hw
      exact this
    obtain ⟨o, ho, hs⟩ := Option.bind_eq_some_iff.1 (show (G.ops[j]?).bind _ = some s from hs)
    obtain ⟨qi, qw⟩ := q
    simp only at hE
    subst hE
    rcases ih hq i hi with h1 | h1
    · have hd : s.2.done = ws.done ||| 2 ^ j := by
        split at hs
        · split at hs
          · obtain ⟨r, _, rfl⟩ := Option.map_eq_some_iff.1 hs
            rfl
          · obtain ⟨b, _, hs⟩ := Option.bind_eq_some_iff.1 hs
            obtain ⟨it, _, hs⟩ := Option.bind_eq_some_iff.1 hs
            obtain ⟨it', _, rfl⟩ := Option.map_eq_some_iff.1 hs
            rfl
        · cases hs
      rw [hd, or_bit] at h1
      simp at h1
      rcases h1 with h1 | rfl
      · exact .inl h1
      · exact .inr (List.mem_cons_self ..)
    · exact .inr (List.mem_cons_of_mem _ h1)
theorem Rg.main {Gl : List Nat → Act → World → Prop} {n : Nat} {Q : Exit → Act → World → Prop} {K : KR} {cl : CT} (hw : G.WrOk) (hix : IxOk G.P G.ix) (hn : n = G.ops.size) (hcall : CallOk G.P cl)
    (hG : ∀ D a w, (∀ i ∈ D, i < n) → (∀ i ∈ D, ∀ j, G.bef i j = true → j ∈ D) → (∀ i, i < n → i ∉ D → (∀ j, G.bef i j = true → j ∈ D) → wpOp G.P G.ops Q i (Gl (i :: D)) a w) → ((∀ i, i < n → i ∈ D) → Q .normal a w) → Gl D a w)
    {wsE : Ws} (hall : ∀ i, i < n → wsE.done.testBit i = true)
    (hfin : ∀ S st ky D a w ρ, K .ok st S = true → S.call = cl → S.e = e → G.Inv B wsE S st ky D a w ρ → (∀ i, i < n → i ∈ D) → Q .normal a w)
    (hpan : ∀ S v c a w ρ, K (.pn v) [] S = true → S.call = cl → S.e = e → V ρ v c → G.Pn B S a w ρ → Q (.panic [{ v := c, recovered := false }]) a w) :
    ∀ (l : List Nat) (ws : Ws) (its : List It), G.walk l ws = some (its, wsE) → ∀ S st ky D a w ρ, evIts its S K st = true → S.call = cl → S.e = e → G.Inv B ws S st ky D a w ρ → Gl D a w := by
  have hlt : ∀ {ws : Ws} {S st ky D a w ρ}, G.Inv B ws S st ky D a w ρ → ∀ i r, lkp ws.loc i = some r → i < n := by
    intro ws S st ky D a w ρ I i r hi
    obtain ⟨o, ho, _⟩ := I.dst i r hi
    rw [hn]
    exact (Array.getElem?_eq_some_iff.1 ho).1
  intro l
  induction l with
  | nil =>
    intro ws its hwk S st ky D a w ρ hev hcl hse I
    cases hwk
    refine Rg.Inv.drain (ws := wsE) (S := S) (st := st) (ky := ky) (B := B) hw hG (hlt I) (fun D a w ρ I => ⟨fun i hi _ hno _ => ?_, fun hD => hfin S st ky D a w ρ hev hcl hse I hD⟩) _ D a w ρ rfl I
    obtain ⟨r, hr⟩ := (I.hd i).1 (hall i hi)
    rw [hno] at hr; cases hr
  | cons i l ih =>
    intro ws its hwk S st ky D a w ρ hev hcl hse I
    obtain ⟨s, hs, hwk⟩ := Option.bind_eq_some_iff.1 (show (G.step ws i).bind _ = some (its, wsE) from hwk)
    obtain ⟨q, hq, hwk⟩ := Option.map_eq_some_iff.1 hwk
    obtain ⟨qi, qw⟩ := q
    have hits : its = (match s.1 with | some it => it :: qi | none => qi) ∧ qw = wsE := by
      have h1 := congrArg Prod.fst hwk
      have h2 := congrArg Prod.snd hwk
      exact ⟨h1.symm, h2⟩
    obtain ⟨hits, rfl⟩ := hits
    obtain ⟨o, ho, hs⟩ := Option.bind_eq_some_iff.1 (show (G.ops[i]?).bind _ = some s from hs)
    split at hs
    · rename_i hcond
      have C := cond_ok hcond
      have hkn : ∀ {S st ky D a w ρ}, G.Inv B ws S st ky D a w ρ → ky i = none := by
        intro S st ky D a w ρ I
        cases hk : ky i with
        | none => rfl
        | some k => obtain ⟨_, q, hq⟩ := I.klt i k hk; rw [I.isNew C.new] at hq; cases hq
      split at hs
      · rename_i x ha
        obtain ⟨r, hr, rfl⟩ := Option.map_eq_some_iff.1 hs
        simp only at hits hq
        subst hits
        exact ih _ _ hq S st ky D a w ρ hev hcl hse (I.alias ho C ha hr (hkn I))
      · obtain ⟨b, hb, hs⟩ := Option.bind_eq_some_iff.1 hs
        obtain ⟨it, hit, hs⟩ := Option.bind_eq_some_iff.1 hs
        obtain ⟨it', hit', rfl⟩ := Option.map_eq_some_iff.1 hs
        simp only at hits hq
        subst hits
        have hev : evI it' (evIts qi) S K st = true := hev
        -- the guard
        have hgrd : ∀ {D a w ρ}, G.Inv B ws S st ky D a w ρ → (G.Wanted ws o st S.e ∧ evI it (evIts qi) S K st = true) ∨ (G.Unwanted ws o st S.e ∧ evIts qi S K (.k .u :: st) = true) := by
          intro D a w ρ I
          unfold Rg.wrap at hit'
          split at hit'
          · rename_i hgd
            cases hit'
            refine .inl ⟨?_, hev⟩
            unfold Rg.Wanted
            rw [hgd]
            trivial
          · rename_i g want hgd
            obtain ⟨r, hr, rfl⟩ := Option.map_eq_some_iff.1 hit'
            have hev : grd (opd (r.x ws.h) st S.e) want (evI it (evIts qi) S K st) (evIts qi S K (.k .u :: st)) = true := hev
            rw [opd_x I.len (I.ok g r hr)] at hev
            rcases grd_inv hev with ⟨h1, h2⟩ | ⟨h1, h2⟩
            · refine .inl ⟨?_, h2⟩
              unfold Rg.Wanted
              rw [hgd]
              exact ⟨r, hr, h1⟩
            · refine .inr ⟨?_, h2⟩
              unfold Rg.Unwanted
              rw [hgd]
              exact ⟨r, hr, h1⟩
        unfold Rg.cOp at hb
        split at hb
        · -- reading
          rename_i ri hri
          cases hb
          cases hit
          rcases hgrd I with ⟨hwt, h1⟩ | ⟨hut, h1⟩
          · have h1 : evR ri st S.e S.h (psh (evIts qi) S K st) = true := h1
            obtain ⟨v, h2, I'⟩ := I.read hix ho C hwt hri h1 (hkn I)
            exact ih _ _ hq S (v :: st) ky D a w ρ h2 hcl hse I'
          · exact ih _ _ hq S (.k .u :: st) ky D a w ρ h1 hcl hse (I.miss ho C hut (hkn I))
        · split at hb
          · -- making
            rename_i ai hai
            cases hb
            cases hit
            rcases hgrd I with ⟨hwt, h1⟩ | ⟨hut, h1⟩
            · have h1 : iA ai (evIts qi) S K st = true := h1
              obtain ⟨v, S', ky', h2, hc', _, he', I'⟩ := I.make ho C hwt hai h1
              exact ih _ _ hq S' (v :: st) ky' D a w ρ h2 (hc'.trans hcl) (he'.trans hse) I'
            · exact ih _ _ hq S (.k .u :: st) ky D a w ρ h1 hcl hse (I.miss ho C hut (hkn I))
          · -- an effect
            split at hb
            · rename_i ei hei
              cases hb
              obtain ⟨cc, hcc, rfl⟩ := Option.map_eq_some_iff.1 (show (G.cks ws i ws.loc).map (fun c => It.e ei c.1 c.2) = some it from hit)
              obtain ⟨ck, ca⟩ := cc
              refine Rg.Inv.drain (ws := ws) (S := S) (st := st) (ky := ky) (B := B) hw hG (hlt I) (fun D a w ρ I => ⟨fun i' hi' hiD hno hr => ?_, fun hD => ?_⟩) _ D a w ρ rfl I
              · by_cases hii : i' = i
                · subst hii
                  unfold wpOp
                  rw [ho]
                  rcases hgrd I with ⟨hwt, h1⟩ | ⟨hut, h1⟩
                  · simp only [I.wanted hr C.grd hwt, if_true]
                    refine .inl ?_
                    have h1 : evE ei S st (ie0 ck ca (evIts qi) K st) (kpn K) = true := h1
                    refine cE_ok (P := G.P) (by rw [hcl]; exact hcall) hei h1 ρ w a _ Q I.rel ((I.good hw hiD hr).good I.len I.ok) I.ds ?_ ?_
                    · intro v c S' ρ' w' ds hK he' hc' hv hrel hext hds
                      have hK : chkR ck (v :: st) S'.e S'.h (chkA ca (v :: st) S'.e S'.h (evIts qi S' K (v :: st))) = true := hK
                      obtain ⟨h2, hf⟩ := I.anew hix C hr he' hext hcc hK true
                      exact ih _ _ hq S' (v :: st) ky _ _ w' ρ' h2 (hc'.trans hcl) (he'.trans hse) (I.next ho C hiD hr true he' hv hrel hext hds hf)
                    · intro v c S' ρ' w' hK he' hc' hd' hv hrel hext
                      exact hpan S' v c a w' ρ' hK (hc'.trans hcl) (he'.trans hse) hv ⟨hrel, I.ext.trans hext, I.size, fun t ht => I.keep t fun j _ oj hoj => ht j oj hoj, by rw [hd']; exact I.ds.mono hext.le⟩
                  · simp only [I.unwanted hr C.grd hut, Bool.false_eq_true, if_false]
                    have U := I.up C.new true (.k .u)
                    have I' := I.next (S' := S) (v := .k .u) (c := undef) (w' := w) (ρ' := ρ) (ds := a.defers) ho C hiD hr true rfl .u I.rel (Ext.refl _ _ _) I.ds (fun j q _ hj hjD => I.facts U rfl (fun k => .inl rfl) (fun _ _ => rfl) j q hj hjD)
                    exact ih _ _ hq S (.k .u :: st) ky _ _ w ρ h1 hcl hse I'
                · -- one that stands behind
                  exfalso
                  have hd := hall i' hi'
                  have h1 : ws.done.testBit i' = true ∨ i' ∈ i :: l := by
                    rcases walk_all hq i' hd with h1 | h1
                    · have h1 : (ws.done ||| 2 ^ i).testBit i' = true := h1
                      rw [or_bit] at h1
                      simp at h1
                      rcases h1 with h1 | h1
                      · exact .inl h1
                      · exact absurd h1.symm hii
                    · exact .inr (List.mem_cons_of_mem _ h1)
                  rcases h1 with h1 | h1
                  · obtain ⟨r, hr'⟩ := (I.hd i').1 h1
                    rw [hno] at hr'; cases hr'
                  · rcases List.mem_cons.1 h1 with h1 | h1
                    · exact hii h1
                    · have hb := walk_eff hq i (show (if isE (B0.e ei) then ws.effm ||| 2 ^ i else ws.effm).testBit i = true by show (ws.effm ||| 2 ^ i).testBit i = true; rw [or_bit]; simp) i' h1
                      obtain ⟨r, hr'⟩ := I.sub i (hr i hb)
                      rw [I.isNew C.new] at hr'; cases hr'
              · have hi' : i < n := by rw [hn]; exact (Array.getElem?_eq_some_iff.1 ho).1
                obtain ⟨r, hr'⟩ := I.sub i (hD i hi')
                rw [I.isNew C.new] at hr'; cases hr'
            · cases hb
              cases hit
              rcases hgrd I with ⟨hwt, h1⟩ | ⟨hut, h1⟩
              · exact (failI_ev (show evR failI st S.e S.h (psh (evIts qi) S K st) = true from h1)).elim
              · exact ih _ _ hq S (.k .u :: st) ky D a w ρ h1 hcl hse (I.miss ho C hut (hkn I))
    · cases hs
end
end Go.Ev
set_option linter.constructorNameAsVariable false
namespace Go.Ev
open Go
variable {w : World} {ρ : Ren} {h : Heap} {nx : BK}

/-! ### what must be done ahead of what -/
def maskU (i : Nat) : Nat := 2 ^ i - 1
def maskD (ms : List Nat) (i : Nat) : Nat := (ms[i]?).getD 0
def maskOf (ms : List Nat) : List Edge → Nat
  | [] => 0
  | e :: es => if Region.binds .any e then (2 ^ e.on ||| (ms[e.on]?).getD 0) ||| maskOf ms es else maskOf ms es
def masksD : List Oper → List Nat → List Nat
  | [], ms => ms
  | o :: os, ms => masksD os (ms ++ [maskOf ms o.after.toList])
/-- the masks are those of the edges, which lead back -/
def drawOk (ms : List Nat) : List Oper → Nat → Bool
  | [], _ => true
  | o :: os, i => decide ((ms[i]?).getD 0 = maskOf ms o.after.toList) && (o.after.toList.all fun e => !Region.binds .any e || decide (e.on < i)) && drawOk ms os (i + 1)
theorem drawOk_at {ms : List Nat} : ∀ {os : List Oper} {k : Nat}, drawOk ms os k = true → ∀ (i : Nat) (o : Oper), os[i]? = some o → (ms[k + i]?).getD 0 = maskOf ms o.after.toList ∧ ∀ e ∈ o.after.toList, Region.binds .any e = true → e.on < k + i := by
  intro os
  induction os with
  | nil => intro k _ i o ho; simp at ho
  | cons x os ih =>
    intro k hk i o ho
    unfold drawOk at hk
    simp only [Bool.and_eq_true, decide_eq_true_eq] at hk
    obtain ⟨⟨h1, h2⟩, h3⟩ := hk
    cases i with
    | zero =>
      simp at ho
      subst ho
      refine ⟨h1, fun e he hb => ?_⟩
      have := List.all_eq_true.1 h2 e he
      simp [hb] at this
      exact this
    | succ i =>
      have := ih h3 i o (by simpa using ho)
      have e1 : k + (i + 1) = k + 1 + i := by omega
      rw [e1]
      exact this
theorem maskOf_bit {ms : List Nat} {j : Nat} : ∀ {es : List Edge}, (maskOf ms es).testBit j = true ↔ ∃ e ∈ es, Region.binds .any e = true ∧ (j = e.on ∨ ((ms[e.on]?).getD 0).testBit j = true) := by
  intro es
  induction es with
  | nil => simp [maskOf]
  | cons e es ih =>
    unfold maskOf
    split
    · rename_i hb
      rw [Nat.testBit_or, Nat.testBit_or, Nat.testBit_two_pow]
      simp only [Bool.or_eq_true, ih, decide_eq_true_eq]
      constructor
      · rintro ((h1 | h1) | ⟨e', h1, h2⟩)
        · exact ⟨e, List.mem_cons_self .., hb, .inl h1.symm⟩
        · exact ⟨e, List.mem_cons_self .., hb, .inr h1⟩
        · exact ⟨e', List.mem_cons_of_mem _ h1, h2⟩
      · rintro ⟨e', h1, h2, h3⟩
        rcases List.mem_cons.1 h1 with rfl | h1
        · rcases h3 with h3 | h3
          · exact .inl (.inl h3.symm)
          · exact .inl (.inr h3)
        · exact .inr ⟨e', h1, h2, h3⟩
    · rename_i hb
      rw [ih]
      constructor
      · rintro ⟨e', h1, h2⟩; exact ⟨e', List.mem_cons_of_mem _ h1, h2⟩
      · rintro ⟨e', h1, h2, h3⟩
        rcases List.mem_cons.1 h1 with rfl | h1
        · exact absurd h2 hb
        · exact ⟨e', h1, h2, h3⟩
section
variable {G : Rg} {Q : Exit → Act → World → Prop}
theorem befU {i j : Nat} (hm : G.mask = maskU) : G.bef i j = true ↔ j < i := by
  unfold Rg.bef
  rw [hm]
  unfold maskU
  simp [Nat.testBit_two_pow_sub_one]
/-- a region whose order is fixed -/
def GlU (P : Program) (ops : Array Oper) (Q : Exit → Act → World → Prop) (n : Nat) (D : List Nat) (a : Act) (w : World) : Prop := ∀ d, d ≤ n → (∀ i, i ∈ D ↔ i < d) → wpOps P ops Q (List.range' d (n - d)) a w
theorem glU (n : Nat) (hm : G.mask = maskU) : ∀ D a w, (∀ i ∈ D, i < n) → (∀ i ∈ D, ∀ j, G.bef i j = true → j ∈ D) → (∀ i, i < n → i ∉ D → (∀ j, G.bef i j = true → j ∈ D) → wpOp G.P G.ops Q i (GlU G.P G.ops Q n (i :: D)) a w) → ((∀ i, i < n → i ∈ D) → Q .normal a w) → GlU G.P G.ops Q n D a w := by
  intro D a w _ _ h1 h2 d hd hD
  by_cases hlt : d < n
  · have e1 : n - d = (n - (d + 1)) + 1 := by omega
    rw [e1, List.range'_succ, wpOps_cons]
    refine wpOp_mono (fun a w hh => ?_) (h1 d hlt (fun hm => by have := (hD d).1 hm; omega) (fun j hj => (hD j).2 ((befU hm).1 hj)))
    refine hh (d + 1) (by omega) fun i => ?_
    rw [List.mem_cons, hD i]
    omega
  · have e1 : d = n := by omega
    subst e1
    rw [Nat.sub_self]
    exact h2 fun i hi => (hD i).2 hi
theorem GlU.start {P : Program} {ops : Array Oper} {n : Nat} {a : Act} (hh : GlU P ops Q n [] a w) : wpOps P ops Q (List.range n) a w := by
  have := hh 0 (Nat.zero_le _) (fun i => by simp)
  rwa [Nat.sub_zero, ← List.range_eq_range'] at this
/-- what is left to do -/
def cnt (n : Nat) (D : List Nat) : Nat := ((List.range n).filter (· ∉ D)).length
theorem cnt_cons {n i : Nat} {D : List Nat} (hi : i < n) (hiD : i ∉ D) : cnt n (i :: D) + 1 = cnt n D := by
  have key : ∀ l : List Nat, l.Nodup → i ∈ l → (l.filter (· ∉ (i :: D))).length + 1 = (l.filter (· ∉ D)).length := by
    intro l
    induction l with
    | nil => intro _ h; cases h
    | cons x l ihl =>
      intro hnd hmem
      rw [List.nodup_cons] at hnd
      by_cases hx : x = i
      · subst hx
        have e1 : l.filter (· ∉ (x :: D)) = l.filter (· ∉ D) := by
          refine List.filter_congr fun y hy => ?_
          have : y ≠ x := fun e => hnd.1 (e ▸ hy)
          simp [this]
        rw [List.filter_cons_of_neg (by simp), List.filter_cons_of_pos (by simpa using hiD), e1, List.length_cons]
      · have hmem' : i ∈ l := by
          rcases List.mem_cons.1 hmem with e | e
          · exact absurd e.symm hx
          · exact e
        have := ihl hnd.2 hmem'
        by_cases hxD : x ∈ D
        · rw [List.filter_cons_of_neg (by simp [hxD]), List.filter_cons_of_neg (by simp [hxD])]; exact this
        · rw [List.filter_cons_of_pos (by simp [hx, hxD]), List.filter_cons_of_pos (by simp [hxD]), List.length_cons, List.length_cons, this]
  exact key (List.range n) List.nodup_range (by simpa using hi)
theorem cnt_zero {n : Nat} {D : List Nat} (h0 : cnt n D = 0) : ∀ i, i < n → i ∈ D := by
  intro i hi
  by_cases hD : i ∈ D
  · exact hD
  · have : i ∈ (List.range n).filter (· ∉ D) := by simp [hi, hD]
    rw [List.length_eq_zero_iff.1 h0] at this
    cases this
/-- a region that draws its order -/
def GlD (P : Program) (ops : Array Oper) (Q : Exit → Act → World → Prop) (n : Nat) (D : List Nat) (a : Act) (w : World) : Prop := ∀ fuel (listed : Array Bool), listed.size = n → (∀ i, i < n → (listed.getD i false = true ↔ i ∈ D)) → cnt n D ≤ fuel → wpAny P .any ops Q fuel listed a w
theorem getD_two {l : Array Bool} {i : Nat} (hi : i < l.size) : l.getD i true = l.getD i false := by simp [hi]
theorem glD (n : Nat) (hn : n = G.ops.size) {ms : List Nat} (hms : G.mask = maskD ms) (hm : drawOk ms G.ops.toList 0 = true) : ∀ D a w, (∀ i ∈ D, i < n) → (∀ i ∈ D, ∀ j, G.bef i j = true → j ∈ D) → (∀ i, i < n → i ∉ D → (∀ j, G.bef i j = true → j ∈ D) → wpOp G.P G.ops Q i (GlD G.P G.ops Q n (i :: D)) a w) → ((∀ i, i < n → i ∈ D) → Q .normal a w) → GlD G.P G.ops Q n D a w := by
  intro D a w hDn hclo h1 h2 fuel listed hsz hl hc
  have edge : ∀ i o, G.ops[i]? = some o → (∀ j, G.bef i j = true ↔ ∃ e ∈ o.after.toList, Region.binds .any e = true ∧ (j = e.on ∨ G.bef e.on j = true)) ∧ ∀ e ∈ o.after.toList, Region.binds .any e = true → e.on < i := by
    intro i o ho
    have ho' : G.ops.toList[i]? = some o := by rw [Array.getElem?_toList]; exact ho
    obtain ⟨g1, g2⟩ := drawOk_at hm i o ho'
    rw [Nat.zero_add] at g1 g2
    refine ⟨fun j => ?_, g2⟩
    unfold Rg.bef
    rw [hms]
    unfold maskD
    rw [g1]
    exact maskOf_bit
  have mem : ∀ i, i ∈ Region.ready .any G.ops listed ↔ i < n ∧ i ∉ D ∧ ∃ o, G.ops[i]? = some o ∧ ∀ e ∈ o.after.toList, Region.binds .any e = true → e.on ∈ D := by
    intro i
    unfold Region.ready
    rw [List.mem_filter, List.mem_range, ← hn]
    constructor
    · rintro ⟨hi, hh⟩
      simp only [Bool.and_eq_true, Bool.not_eq_true'] at hh
      obtain ⟨g1, g2⟩ := hh
      rw [getD_two (by omega)] at g1
      refine ⟨hi, fun hD => ?_, ?_⟩
      · rw [(hl i hi).2 hD] at g1; cases g1
      · cases ho : G.ops[i]? with
        | none => rw [ho] at g2; simp at g2
        | some o =>
          rw [ho] at g2
          simp only [Option.map_some, Option.getD_some] at g2
          refine ⟨o, rfl, fun e he hb => ?_⟩
          have := (edge i o ho).2 e he hb
          rw [← Array.all_toList] at g2
          have g3 := List.all_eq_true.1 g2 e he
          simp only [hb, Bool.not_true, Bool.false_or] at g3
          exact (hl e.on (by omega)).1 g3
    · rintro ⟨hi, hD, o, ho, hh⟩
      refine ⟨hi, ?_⟩
      simp only [Bool.and_eq_true, Bool.not_eq_true', ho, Option.map_some, Option.getD_some]
      constructor
      · rw [getD_two (by omega)]
        cases hg : listed.getD i false with
        | false => rfl
        | true => exact absurd ((hl i hi).1 hg) hD
      · rw [← Array.all_toList]
        refine List.all_eq_true.2 fun e he => ?_
        cases hb : Region.binds .any e with
        | false => rfl
        | true =>
          have := (edge i o ho).2 e he hb
          simp only [Bool.not_true, Bool.false_or]
          exact (hl e.on (by omega)).2 (hh e he hb)
  have nil : Region.ready .any G.ops listed = [] → ∀ i, i < n → i ∈ D := by
    intro hr i
    induction i using Nat.strongRecOn with
    | _ i ih =>
      intro hi
      by_cases hD : i ∈ D
      · exact hD
      · obtain ⟨o, ho⟩ : ∃ o, G.ops[i]? = some o := ⟨G.ops[i]'(by omega), by simp⟩
        have : i ∈ Region.ready .any G.ops listed := (mem i).2 ⟨hi, hD, o, ho, fun e he hb => by
          have := (edge i o ho).2 e he hb
          exact ih e.on this (by omega)⟩
        rw [hr] at this
        cases this
  cases fuel with
  | zero =>
    have h0 : ∀ i, i < n → i ∈ D := cnt_zero (by omega)
    refine ⟨?_, h2 h0⟩
    cases hr : Region.ready .any G.ops listed with
    | nil => rfl
    | cons x l =>
      have : x ∈ Region.ready .any G.ops listed := by rw [hr]; exact List.mem_cons_self ..
      obtain ⟨g1, g2, _⟩ := (mem x).1 this
      exact absurd (h0 x g1) g2
  | succ fuel =>
    refine ⟨fun hr => h2 (nil hr), fun i hi => ?_⟩
    obtain ⟨g1, g2, o, ho, g3⟩ := (mem i).1 hi
    have hb : ∀ j, G.bef i j = true → j ∈ D := by
      intro j hj
      obtain ⟨e, he, hb, hh⟩ := ((edge i o ho).1 j).1 hj
      have := g3 e he hb
      rcases hh with rfl | hh
      · exact this
      · exact hclo _ this j hh
    have hset : ∀ j, j < n → ((listed.setIfInBounds i true).getD j false = true ↔ j ∈ i :: D) := by
      intro j hj
      rw [List.mem_cons]
      by_cases e1 : j = i
      · subst e1
        have : j < listed.size := by omega
        simp [this]
      · rw [getD_set_ne false (Ne.symm e1), hl j hj]
        simp [e1]
    have hcn : cnt n (i :: D) ≤ fuel := by
      have := cnt_cons g1 g2; omega
    exact wpOp_mono (fun a w hh => hh fuel (listed.setIfInBounds i true) (by simpa using hsz) hset hcn) (h1 i g1 g2 hb)
theorem GlD.start {P : Program} {ops : Array Oper} {n : Nat} {a : Act} (hn : n = ops.size) (hh : GlD P ops Q n [] a w) : wpAny P .any ops Q ops.size (Array.replicate ops.size false) a w := by
  refine hh _ _ (by simp [hn]) (fun i hi => ?_) ?_
  · subst hn
    simp [hi]
  · unfold cnt
    refine Nat.le_trans (List.length_filter_le ..) ?_
    simp [hn]
end
end Go.Ev
set_option linter.constructorNameAsVariable false
namespace Go.Ev
open Go
variable {w : World} {ρ : Ren} {h : Heap} {nx : BK}

/-! ### a region whole -/
def Rg.sets (G : Rg) (ws : Ws) : List Nat → List (VK × X)
  | [] => []
  | i :: l => match (G.ops[i]?).bind (fun o => o.dst.bind fun d => (slotOf G.pers d).bind fun k => (lkp ws.loc i).map fun r => (k, r.x ws.h)) with
    | some p => p :: G.sets ws l
    | none => G.sets ws l
theorem sets_mem {G : Rg} {ws : Ws} {k : VK} {x : X} : ∀ {l : List Nat}, (k, x) ∈ G.sets ws l ↔ ∃ i ∈ l, ∃ o d r, G.ops[i]? = some o ∧ o.dst = some d ∧ slotOf G.pers d = some k ∧ lkp ws.loc i = some r ∧ x = r.x ws.h := by
  intro l
  induction l with
  | nil => simp [Rg.sets]
  | cons i l ih =>
    have key : ∀ p, ((G.ops[i]?).bind (fun o => o.dst.bind fun d => (slotOf G.pers d).bind fun k => (lkp ws.loc i).map fun r => (k, r.x ws.h)) = some p) ↔ ∃ o d r, G.ops[i]? = some o ∧ o.dst = some d ∧ slotOf G.pers d = some p.1 ∧ lkp ws.loc i = some r ∧ p.2 = r.x ws.h := by
      intro p
      obtain ⟨k, x⟩ := p
      constructor
      · intro hh
        obtain ⟨o, ho, hh⟩ := Option.bind_eq_some_iff.1 hh
        obtain ⟨d, hd, hh⟩ := Option.bind_eq_some_iff.1 hh
        obtain ⟨k', hk, hh⟩ := Option.bind_eq_some_iff.1 hh
        obtain ⟨r, hr, hh⟩ := Option.map_eq_some_iff.1 hh
        cases hh
        exact ⟨o, d, r, ho, hd, hk, hr, rfl⟩
      · rintro ⟨o, d, r, ho, hd, hk, hr, hx⟩
        simp only at hk hx
        subst hx
        simp [ho, hd, hk, hr]
    unfold Rg.sets
    split
    · rename_i p hp
      rw [List.mem_cons, ih]
      constructor
      · rintro (rfl | ⟨j, hj, hh⟩)
        · exact ⟨i, List.mem_cons_self .., (key _).1 hp⟩
        · exact ⟨j, List.mem_cons_of_mem _ hj, hh⟩
      · rintro ⟨j, hj, hh⟩
        rcases List.mem_cons.1 hj with rfl | hj
        · have := (key (k, x)).2 hh
          rw [hp] at this
          exact .inl (Option.some.inj this).symm
        · exact .inr ⟨j, hj, hh⟩
    · rename_i hp
      rw [ih]
      constructor
      · rintro ⟨j, hj, hh⟩; exact ⟨j, List.mem_cons_of_mem _ hj, hh⟩
      · rintro ⟨j, hj, hh⟩
        rcases List.mem_cons.1 hj with rfl | hj
        · have := (key (k, x)).2 hh
          rw [hp] at this
          cases this
        · exact ⟨j, hj, hh⟩
theorem setAll_inv (st : List AV) (e0 : Env) : ∀ (l : List (VK × X)) (e : Env) (K : Env → Bool), setAll l st e0 e K = true →
    ∃ e', K e' = true ∧ ∀ k, (∃ x, (k, x) ∈ l ∧ vat e' k = opd x st e0) ∨ ((∀ x, (k, x) ∉ l) ∧ vat e' k = vat e k) := by
  intro l
  induction l with
  | nil => exact fun e K hh => ⟨e, hh, fun k => .inr ⟨fun x => by simp, rfl⟩⟩
  | cons p l ih =>
    intro e K hh
    obtain ⟨k0, x0⟩ := p
    obtain ⟨_, h1⟩ := frcV_inv (show frcV (opd x0 st e0) (sa2 (setAll l) st e0 e K k0) = true from hh)
    have h1 : vput e k0 (opd x0 st e0) (sa3 (setAll l) st e0 K) = true := h1
    obtain ⟨e1, g1, g2⟩ := vput_ex e k0 (opd x0 st e0)
    rw [g1] at h1
    obtain ⟨e', h2, h3⟩ := ih e1 K h1
    refine ⟨e', h2, fun k => ?_⟩
    rcases h3 k with ⟨x, q1, q2⟩ | ⟨q1, q2⟩
    · exact .inl ⟨x, List.mem_cons_of_mem _ q1, q2⟩
    · rw [g2] at q2
      by_cases hk : k = k0
      · subst hk
        rw [if_pos rfl] at q2
        exact .inl ⟨x0, List.mem_cons_self .., q2⟩
      · rw [if_neg hk] at q2
        refine .inr ⟨fun x hx => ?_, q2⟩
        rcases List.mem_cons.1 hx with e1 | hx
        · cases e1; exact hk rfl
        · exact q1 x hx
theorem clrAll_inv : ∀ (l : List (VK × X)) (st : List AV) (e0 : Env) (e : Env) (K : Env → Bool), clrAll l st e0 e K = true →
    ∃ e', K e' = true ∧ ∀ k, vat e' k = .k .x ∨ ((∀ x, (k, x) ∉ l) ∧ vat e' k = vat e k) := by
  intro l
  induction l with
  | nil => exact fun _ _ e K hh => ⟨e, hh, fun k => .inr ⟨fun x => by simp, rfl⟩⟩
  | cons p l ih =>
    intro _ _ e K hh
    obtain ⟨k0, x0⟩ := p
    have h1 : vput e k0 (.k .x) (sa3 (clrAll l) [] e K) = true := hh
    obtain ⟨e1, g1, g2⟩ := vput_ex e k0 (.k .x)
    rw [g1] at h1
    obtain ⟨e', h2, h3⟩ := ih [] e e1 K h1
    refine ⟨e', h2, fun k => ?_⟩
    rcases h3 k with q1 | ⟨q1, q2⟩
    · exact .inl q1
    · rw [g2] at q2
      by_cases hk : k = k0
      · subst hk
        rw [if_pos rfl] at q2
        exact .inl q2
      · rw [if_neg hk] at q2
        refine .inr ⟨fun x hx => ?_, q2⟩
        rcases List.mem_cons.1 hx with e1 | hx
        · cases e1; exact hk rfl
        · exact q1 x hx
def St.setE : St → Env → St | .mk c _ ds h nx, e => .mk c e ds h nx
theorem St.withE_eq (S : St) (e : Env) (K : St → Bool) : S.withE e K = K (S.setE e) := by cases S; rfl
theorem St.setE_call (S : St) (e : Env) : (S.setE e).call = S.call := by cases S; rfl
theorem St.setE_e (S : St) (e : Env) : (S.setE e).e = e := by cases S; rfl
theorem St.setE_ds (S : St) (e : Env) : (S.setE e).ds = S.ds := by cases S; rfl
theorem St.setE_h (S : St) (e : Env) : (S.setE e).h = S.h := by cases S; rfl
theorem St.setE_nx (S : St) (e : Env) : (S.setE e).nx = S.nx := by cases S; rfl
section
variable {G : Rg} {B : Beg} {ws : Ws} {S : St} {st : List AV} {ky : Nat → Option BK} {D : List Nat} {a : Act} {n : Nat}
theorem Rg.Inv.slots (I : G.Inv B ws S st ky D a w ρ) (hn : n = G.ops.size) (hD : ∀ i, i < n → i ∈ D) {e' : Env} (he : ∀ k, (∃ x, (k, x) ∈ G.sets ws (List.range n) ∧ vat e' k = opd x st S.e) ∨ ((∀ x, (k, x) ∉ G.sets ws (List.range n)) ∧ vat e' k = vat S.e k)) : EnvR ρ G.pers e' a := by
  intro t k hk
  rcases he k with ⟨x, h1, h2⟩ | ⟨h1, h2⟩
  · obtain ⟨i, hi, o, d, r, q1, q2, q3, q4, rfl⟩ := sets_mem.1 h1
    have hi : i < n := by simpa using hi
    have : d = t := slotOf_inj q3 hk
    subst this
    rw [h2, opd_x I.len (I.ok i r q4)]
    exact I.put i (hD i hi) o r d q1 q2 q4
  · rw [h2, I.keep t]
    · exact (I.env t k hk).mono I.ext.le
    · intro i hi o ho hd
      obtain ⟨r, hr⟩ := I.sub i hi
      have hlt : i < n := by rw [hn]; exact (Array.getElem?_eq_some_iff.1 ho).1
      exact h1 _ (sets_mem.2 ⟨i, by simpa using hlt, o, t, r, ho, hd, hk, hr, rfl⟩)
theorem Rg.Pn.slots {wsE : Ws} (I : G.Pn B S a w ρ) (hn : n = G.ops.size) (hB : EnvR B.ρ G.pers S.e B.a) (hloc : ∀ i, i < n → ∃ r, lkp wsE.loc i = some r) {e' : Env} (he : ∀ k, vat e' k = .k .x ∨ ((∀ x, (k, x) ∉ G.sets wsE (List.range n)) ∧ vat e' k = vat S.e k)) : EnvR ρ G.pers e' a := by
  intro t k hk
  rcases he k with h1 | ⟨h1, h2⟩
  · rw [h1]; exact .x _
  · rw [h2, I.keep t]
    · exact (hB t k hk).mono I.ext.le
    · intro i o ho hd
      have hlt : i < n := by rw [hn]; exact (Array.getElem?_eq_some_iff.1 ho).1
      obtain ⟨r, hr⟩ := hloc i hlt
      exact h1 _ (sets_mem.2 ⟨i, by simpa using hlt, o, t, r, ho, hd, hk, hr, rfl⟩)
theorem walk_loc : ∀ {l : List Nat} {ws wsE : Ws} {its : List It}, G.walk l ws = some (its, wsE) → (∀ i, ws.done.testBit i = true → ∃ r, lkp ws.loc i = some r) → ∀ i, wsE.done.testBit i = true → ∃ r, lkp wsE.loc i = some r := by
  intro l
  induction l with
  | nil => intro ws wsE its hw hh; cases hw; exact hh
  | cons j l ih =>
    intro ws wsE its hw hh
    obtain ⟨s, hs, hw⟩ := Option.bind_eq_some_iff.1 (show (G.step ws j).bind _ = some (its, wsE) from hw)
    obtain ⟨q, hq, hw⟩ := Option.map_eq_some_iff.1 hw
    obtain ⟨qi, qw⟩ := q
    have hE : qw = wsE := congrArg Prod.snd hw
    subst hE
    refine ih hq ?_
    obtain ⟨o, ho, hs⟩ := Option.bind_eq_some_iff.1 (show (G.ops[j]?).bind _ = some s from hs)
    have key : ∀ (ws' : Ws) (r : Ref), ws'.loc = (j, r) :: ws.loc → ws'.done = ws.done ||| 2 ^ j → ∀ i, ws'.done.testBit i = true → ∃ r, lkp ws'.loc i = some r := by
      intro ws' r h1 h2 i hi
      rw [h2, or_bit] at hi
      simp at hi
      rw [h1, lkp_cons]
      by_cases e1 : i = j
      · exact ⟨r, by rw [if_pos e1]⟩
      · rw [if_neg e1]
        rcases hi with hi | hi
        · exact hh i hi
        · exact absurd hi.symm e1
    split at hs
    · split at hs
      · obtain ⟨r, _, rfl⟩ := Option.map_eq_some_iff.1 hs
        exact key _ r rfl rfl
      · obtain ⟨b, _, hs⟩ := Option.bind_eq_some_iff.1 hs
        obtain ⟨it, _, hs⟩ := Option.bind_eq_some_iff.1 hs
        obtain ⟨it', _, rfl⟩ := Option.map_eq_some_iff.1 hs
        exact key _ (.a ws.h) rfl rfl
    · cases hs
end
/-! ### what functions are compiled with -/
structure Cx where
  P : Program
  ix : Nat → Bool
  pers : List Nat
  nt : Nat
  ords : List (Nat × List Nat)
def Cx.rg (C : Cx) (ops : Array Oper) (draw : Bool) : Rg :=
  { P := C.P, ix := C.ix, pers := C.pers, nt := C.nt, ops, wr := wrOf ops.toList 0, mask := if draw then maskD (masksD ops.toList []) else maskU }
def Cx.reg (C : Cx) (id : Nat) (ops : Array Oper) (draw : Bool) : Option (List It × Ws) :=
  if draw && !drawOk (masksD ops.toList []) ops.toList 0 then none else
  ((C.rg ops draw).walk (if draw then (lkp C.ords id).getD [] else List.range ops.size) ws0).bind fun q => if q.2.done = 2 ^ ops.size - 1 then some q else none
theorem wrs_ok (C : Cx) (ops : Array Oper) (draw : Bool) : (C.rg ops draw).WrOk := by
  intro t j hj
  obtain ⟨_, o, ho, hd⟩ := wrOf_ok (show lkp (wrOf ops.toList 0) t = some j from hj)
  exact ⟨o, by show ops[j]? = some o; simpa using ho, hd⟩
/-- what the world and the frame hold -/
structure Now (C : Cx) (S : St) (a : Act) (w : World) (ρ : Ren) : Prop where
  rel : Rel ρ S.h S.nx w
  env : EnvR ρ C.pers S.e a
  ds : DsR ρ S.ds a.defers
  size : a.tmps.size = C.nt
theorem Now.start {C : Cx} {S : St} {a : Act} (N : Now C S a w ρ) (ops : Array Oper) (draw : Bool) : (C.rg ops draw).Inv ⟨a, ρ, S.nx, w⟩ ws0 S [] (fun _ => none) [] a w ρ where
  len := rfl
  ok := fun i r hi => by cases hi
  hd := fun i => by simp [ws0, lkp]
  he := fun i hi => by simp [ws0] at hi
  cl := fun i r hi => by cases hi
  dst := fun i r hi => by cases hi
  rel := N.rel
  ext := Ext.refl _ _ _
  sub := fun i hi => by cases hi
  clo := fun i hi => by cases hi
  put := fun i hi => by cases hi
  size := N.size
  keep := fun _ _ => rfl
  env := N.env
  ds := N.ds
  fact := fun i r hi => by cases hi
  kinj := fun i j k hi => by cases hi
  klt := fun i k hi => by cases hi
theorem done_all {n d : Nat} (hd : d = 2 ^ n - 1) : ∀ i, i < n → d.testBit i = true := by
  intro i hi
  rw [hd, Nat.testBit_two_pow_sub_one]
  simpa using hi
theorem Cx.reg_ok {C : Cx} (hfol : C.P.follows .mixedOrders = true) (hix : IxOk C.P C.ix) {id : Nat} {ops : Array Oper} {draw : Bool} {its : List It} {wsE : Ws} (hc : C.reg id ops draw = some (its, wsE)) {S : St} {K : KR} {a : Act} {Q : Exit → Act → World → Prop}
    (hev : evIts its S K [] = true) (hcall : CallOk C.P S.call) (N : Now C S a w ρ)
    (hfin : ∀ S' st ky D a' w' ρ', K .ok st S' = true → S'.call = S.call → S'.e = S.e → (C.rg ops draw).Inv ⟨a, ρ, S.nx, w⟩ wsE S' st ky D a' w' ρ' → (∀ i, i < ops.size → i ∈ D) → Q .normal a' w')
    (hpan : ∀ S' v c a' w' ρ', K (.pn v) [] S' = true → S'.call = S.call → S'.e = S.e → V ρ' v c → (C.rg ops draw).Pn ⟨a, ρ, S.nx, w⟩ S' a' w' ρ' → Q (.panic [{ v := c, recovered := false }]) a' w') :
    (Code.region id ops draw).wp C.P Q a w ∧ ∀ i, i < ops.size → ∃ r, lkp wsE.loc i = some r := by
  unfold Cx.reg at hc
  split at hc
  · cases hc
  · rename_i hdr
    obtain ⟨q, hq, hc⟩ := Option.bind_eq_some_iff.1 hc
    split at hc
    · rename_i hdone
      cases hc
      have hall := done_all hdone
      refine ⟨?_, fun i hi => walk_loc hq (fun i hi => by simp [ws0] at hi) i (hall i hi)⟩
      cases draw with
      | false =>
        refine wp_region (GlU.start ?_)
        exact Rg.main (G := C.rg ops false) (B := ⟨a, ρ, S.nx, w⟩) (e := S.e) (cl := S.call) (K := K) (Q := Q) (wrs_ok C ops false) hix rfl hcall (glU (G := C.rg ops false) ops.size rfl) hall hfin hpan _ ws0 its hq S [] (fun _ => none) [] a w ρ hev rfl rfl (N.start ops false)
      | true =>
        have hdr : drawOk (masksD ops.toList []) ops.toList 0 = true := by simpa using hdr
        have Ndr : Now C S a { w with drawn := w.drawn + 1 } ρ := ⟨N.rel.drawn _, N.env, N.ds, N.size⟩
        refine wp_region_any hfol (GlD.start (n := ops.size) rfl ?_)
        have I := Ndr.start ops true
        have I' : (C.rg ops true).Inv ⟨a, ρ, S.nx, w⟩ ws0 S [] (fun _ => none) [] a { w with drawn := w.drawn + 1 } ρ := { I with ext := Ext.drawn _ }
        exact Rg.main (G := C.rg ops true) (B := ⟨a, ρ, S.nx, w⟩) (e := S.e) (cl := S.call) (K := K) (Q := Q) (wrs_ok C ops true) hix rfl hcall (glD (G := C.rg ops true) ops.size rfl (ms := masksD ops.toList []) rfl hdr) hall hfin hpan _ ws0 its hq S [] (fun _ => none) [] a _ ρ hev rfl rfl I'
    · cases hc
end Go.Ev
set_option linter.constructorNameAsVariable false
namespace Go.Ev
open Go
variable {w : World} {ρ : Ren} {h : Heap} {nx : BK}

/-! ### code -/
def Cx.opd (C : Cx) : Operand → Option X
  | .tmp t => (slotOf C.pers t).map .v
  | .const (.bool b) => some (.c (.b b))
  | _ => none
def failCo : Co := .reg [.r failI] []
def Cx.code (C : Cx) : Code → Option Co
  | .skip => some .skip
  | .label _ => some .skip
  | .region id ops draw => match C.reg id ops draw with
    | some q => some (.reg q.1 ((C.rg ops draw).sets q.2 (List.range ops.size)))
    | none => some failCo
  | .seq (.region id ops draw) (.cond (.tmp t) x y) => match C.reg id ops draw with
    | some q => (C.code x).bind fun cx => (C.code y).bind fun cy =>
      match (lkp (wrOf ops.toList 0) t).bind (lkp q.2.loc) with
      | some r => some (.regc q.1 ((C.rg ops draw).sets q.2 (List.range ops.size)) (r.x q.2.h) cx cy)
      | none => match slotOf C.pers t with
        | some k => some (.seq (.reg q.1 ((C.rg ops draw).sets q.2 (List.range ops.size))) (.cond (.v k) cx cy))
        | none => some failCo
    | none => some failCo
  | .seq a b => (C.code a).bind fun x => (C.code b).map fun y => .seq x y
  | .cond c a b => match C.opd c with
    | some k => (C.code a).bind fun x => (C.code b).map fun y => .cond k x y
    | none => some failCo
  | .block id a => (C.code a).map fun x => .block id x
  | .loop a => (C.code a).map fun x => .loop x
  | .exit id => some (.exit id)
  | .ret => some .ret
  | .scope a => C.code a
  | _ => some failCo
/-- how code ends -/
inductive ExR (ρ : Ren) : Ex → Exit → Prop
  | nrm : ExR ρ .nrm .normal
  | ex (id : Nat) : ExR ρ (.ex id) (.exit id)
  | rt : ExR ρ .rt .ret
  | pn (v : AV) (c : Value) (hv : V ρ v c) : ExR ρ (.pn v) (.panic [{ v := c, recovered := false }])
def Post (C : Cx) (cl : CT) (KX : KX) (ρ0 : Ren) (nx0 : BK) (w0 : World) : Exit → Act → World → Prop := fun e a w => ∃ x S ρ, KX x S = true ∧ S.call = cl ∧ Now C S a w ρ ∧ Ext ρ0 nx0 w0 ρ S.nx w ∧ ExR ρ x e
def CoOk (C : Cx) (c : Code) (co : CoT) : Prop := ∀ S KX, co S KX = true → CallOk C.P S.call → ∀ ρ0 nx0 w0 ρ w a, Now C S a w ρ → Ext ρ0 nx0 w0 ρ S.nx w → c.wp C.P (Post C S.call KX ρ0 nx0 w0) a w
theorem Now.setE {C : Cx} {S : St} {a : Act} {e : Env} (hr : Rel ρ S.h S.nx w) (he : EnvR ρ C.pers e a) (hd : DsR ρ S.ds a.defers) (hs : a.tmps.size = C.nt) : Now C (S.setE e) a w ρ :=
  ⟨by rw [St.setE_h, St.setE_nx]; exact hr, by rw [St.setE_e]; exact he, by rw [St.setE_ds]; exact hd, hs⟩
theorem reg_panic {C : Cx} {ops : Array Oper} {draw : Bool} {wsE : Ws} {S S' : St} {a a' : Act} {w' : World} {ρ' : Ren} {v : AV} {c : Value} {KX : KX} {ρ0 : Ren} {nx0 : BK} {w0 : World} (N : Now C S a w ρ) (hx : Ext ρ0 nx0 w0 ρ S.nx w) (hloc : ∀ i, i < ops.size → ∃ r, lkp wsE.loc i = some r)
    (hK : clrAll ((C.rg ops draw).sets wsE (List.range ops.size)) [] S'.e S'.e (kee (.pn v) S' KX) = true) (hc : S'.call = S.call) (he : S'.e = S.e) (hv : V ρ' v c) (I : (C.rg ops draw).Pn ⟨a, ρ, S.nx, w⟩ S' a' w' ρ') : Post C S.call KX ρ0 nx0 w0 (.panic [{ v := c, recovered := false }]) a' w' := by
  obtain ⟨e', h1, h2⟩ := clrAll_inv _ _ _ _ _ hK
  have h1 : S'.withE e' (KX (.pn v)) = true := h1
  rw [St.withE_eq] at h1
  refine ⟨.pn v, S'.setE e', ρ', h1, (St.setE_call ..).trans hc, Now.setE I.rel ?_ I.ds I.size, by rw [St.setE_nx]; exact hx.trans I.ext, .pn v c hv⟩
  exact I.slots rfl (by rw [he]; exact N.env) hloc h2
section
variable {C : Cx}
theorem reg_co (hfol : C.P.follows .mixedOrders = true) (hix : IxOk C.P C.ix) {id : Nat} {ops : Array Oper} {draw : Bool} {q : List It × Ws} (hc : C.reg id ops draw = some q) : CoOk C (.region id ops draw) (evC (.reg q.1 ((C.rg ops draw).sets q.2 (List.range ops.size)))) := by
  intro S KX hev hcall ρ0 nx0 w0 ρ w a N hx
  obtain ⟨its, wsE⟩ := q
  have hev : evIts its S (krg ((C.rg ops draw).sets wsE (List.range ops.size)) KX) [] = true := hev
  have hloc := (Cx.reg_ok (Q := fun _ _ _ => True) hfol hix hc hev hcall N (fun _ _ _ _ _ _ _ _ _ _ _ _ => trivial) (fun _ _ _ _ _ _ _ _ _ _ _ => trivial)).2
  refine (Cx.reg_ok hfol hix hc hev hcall N ?_ ?_).1
  · intro S' st ky D a' w' ρ' hK hcl he I hD
    have hK : setAll ((C.rg ops draw).sets wsE (List.range ops.size)) st S'.e S'.e (kee .nrm S' KX) = true := hK
    obtain ⟨e', h1, h2⟩ := setAll_inv _ _ _ _ _ hK
    have h1 : S'.withE e' (KX .nrm) = true := h1
    rw [St.withE_eq] at h1
    exact ⟨.nrm, S'.setE e', ρ', h1, (St.setE_call ..).trans hcl, Now.setE I.rel (I.slots rfl hD h2) I.ds I.size, by rw [St.setE_nx]; exact hx.trans I.ext, .nrm⟩
  · intro S' v c a' w' ρ' hK hcl he hv I
    exact reg_panic N hx hloc hK hcl he hv I
theorem bcase_inv {v : AV} {y n : Bool} (hh : bcase v y n false = true) : ∃ t, v = .b t ∧ (if t then y else n) = true := by
  unfold bcase at hh
  obtain ⟨h1, h2⟩ := ifb_true hh
  cases v with
  | b t => exact ⟨t, rfl, by rw [ifb_eq] at h2; exact h2⟩
  | _ => cases h1
theorem evC_reg (its : List It) (s : List (VK × X)) : evC (.reg its s) = cReg its s := rfl
theorem evC_regc (its : List It) (s : List (VK × X)) (j : X) (a b : Co) : evC (.regc its s j a b) = cRegc its s j a b (evC a) (evC b) := rfl
theorem evC_seq (a b : Co) : evC (.seq a b) = cSeq a b (evC a) (evC b) := rfl
theorem evC_cond (c : X) (a b : Co) : evC (.cond c a b) = cCond c a b (evC a) (evC b) := rfl
theorem evC_block (id : Nat) (a : Co) : evC (.block id a) = cBlock id a (evC a) := rfl
theorem evC_loop (a : Co) : evC (.loop a) = cLoop a (evC a) := rfl
theorem seq_co {a b : Code} {x y : CoT} (hx : CoOk C a x) (hy : CoOk C b y) : CoOk C (.seq a b) (fun S K => x S (cs1 y K)) := by
  intro S KX hev hcall ρ0 nx0 w0 ρ w ac N hxt
  refine wp_seq (wp_mono (hx S (cs1 y KX) hev hcall ρ0 nx0 w0 ρ w ac N hxt) ?_)
  rintro e a' w' ⟨ex, S', ρ', h1, h2, h3, h4, h5⟩
  cases h5 with
  | nrm =>
    have h1 : y S' KX = true := h1
    show b.wp C.P (Post C S.call KX ρ0 nx0 w0) a' w'
    rw [← h2]
    exact hy S' KX h1 (by rw [h2]; exact hcall) ρ0 nx0 w0 ρ' w' a' h3 h4
  | ex id => exact ⟨.ex id, S', ρ', h1, h2, h3, h4, .ex id⟩
  | rt => exact ⟨.rt, S', ρ', h1, h2, h3, h4, .rt⟩
  | pn v c hv => exact ⟨.pn v, S', ρ', h1, h2, h3, h4, .pn v c hv⟩
theorem cond_co {c : Operand} {k : X} {a b : Code} {x y : CoT} (hk : C.opd c = some k) (hx : CoOk C a x) (hy : CoOk C b y) : CoOk C (.cond c a b) (fun S K => bcase (opd k [] S.e) (x S K) (y S K) false) := by
  intro S KX hev hcall ρ0 nx0 w0 ρ w ac N hxt
  obtain ⟨t, h1, h2⟩ := bcase_inv hev
  have hv : V ρ (opd k [] S.e) (ac.eval c) := by
    unfold Cx.opd at hk
    split at hk
    · obtain ⟨kk, hkk, rfl⟩ := Option.map_eq_some_iff.1 hk
      exact N.env _ _ hkk
    · cases hk; exact .b _
    · cases hk
  rw [h1] at hv
  refine wp_cond hv.bool_inv ?_
  cases t with
  | true => exact hx S KX h2 hcall ρ0 nx0 w0 ρ w ac N hxt
  | false => exact hy S KX h2 hcall ρ0 nx0 w0 ρ w ac N hxt
theorem regc_co (hfol : C.P.follows .mixedOrders = true) (hix : IxOk C.P C.ix) {id : Nat} {ops : Array Oper} {draw : Bool} {q : List It × Ws} (hc : C.reg id ops draw = some q) {t : Tmp} {r : Ref} (hr : (lkp (wrOf ops.toList 0) t).bind (lkp q.2.loc) = some r) {x y : Code} {cx cy : Co}
    (hcx : CoOk C x (evC cx)) (hcy : CoOk C y (evC cy)) : CoOk C (.seq (.region id ops draw) (.cond (.tmp t) x y)) (evC (.regc q.1 ((C.rg ops draw).sets q.2 (List.range ops.size)) (r.x q.2.h) cx cy)) := by
  intro S KX hev hcall ρ0 nx0 w0 ρ w a N hx
  obtain ⟨its, wsE⟩ := q
  simp only at hr hev
  have hev : evIts its S (krc ((C.rg ops draw).sets wsE (List.range ops.size)) (r.x wsE.h) (evC cx) (evC cy) KX) [] = true := hev
  have hloc := (Cx.reg_ok (Q := fun _ _ _ => True) hfol hix hc hev hcall N (fun _ _ _ _ _ _ _ _ _ _ _ _ => trivial) (fun _ _ _ _ _ _ _ _ _ _ _ => trivial)).2
  refine wp_seq (Cx.reg_ok hfol hix hc hev hcall N ?_ ?_).1
  · intro S' st ky D a' w' ρ' hK hcl he I hD
    have hK : setAll ((C.rg ops draw).sets wsE (List.range ops.size)) st S'.e S'.e (kc1 (opd (r.x wsE.h) st S'.e) (evC cx) (evC cy) S' KX) = true := hK
    obtain ⟨e', h1, h2⟩ := setAll_inv _ _ _ _ _ hK
    have h1 : S'.withE e' (kc2 (opd (r.x wsE.h) st S'.e) (evC cx) (evC cy) KX) = true := h1
    rw [St.withE_eq] at h1
    obtain ⟨tt, g1, g2⟩ := bcase_inv (show bcase (opd (r.x wsE.h) st S'.e) (evC cx (S'.setE e') KX) (evC cy (S'.setE e') KX) false = true from h1)
    obtain ⟨i, hi, hr⟩ := Option.bind_eq_some_iff.1 hr
    obtain ⟨o, ho, hd⟩ := wrs_ok C ops draw t i hi
    have hlt : i < ops.size := (Array.getElem?_eq_some_iff.1 ho).1
    have hv := I.put i (hD i hlt) o r t ho hd hr
    rw [← opd_x I.len (I.ok i r hr), g1] at hv
    have N' : Now C (S'.setE e') a' w' ρ' := Now.setE I.rel (I.slots rfl hD h2) I.ds I.size
    have hx' : Ext ρ0 nx0 w0 ρ' (S'.setE e').nx w' := by rw [St.setE_nx]; exact hx.trans I.ext
    have hcl' : (S'.setE e').call = S.call := (St.setE_call ..).trans hcl
    show (Code.cond (.tmp t) x y).wp C.P (Post C S.call KX ρ0 nx0 w0) a' w'
    refine wp_cond (show a'.eval (.tmp t) = .bool tt from hv.bool_inv) ?_
    rw [← hcl']
    cases tt with
    | true => exact hcx _ KX g2 (by rw [hcl']; exact hcall) ρ0 nx0 w0 ρ' w' a' N' hx'
    | false => exact hcy _ KX g2 (by rw [hcl']; exact hcall) ρ0 nx0 w0 ρ' w' a' N' hx'
  · intro S' v c a' w' ρ' hK hcl he hv I
    exact reg_panic N hx hloc hK hcl he hv I
theorem loop_co {a : Code} {x : CoT} (hx : CoOk C a x) : ∀ n, CoOk C (.loop a) (cLoopN n x) := by
  intro n S KX hev hcall ρ0 nx0 w0 ρ w ac N hxt
  refine wp_loop_rounds n ?_
  induction n generalizing S ρ w ac with
  | zero => cases hev
  | succ n ih =>
    rw [rounds_succ]
    refine wp_mono (hx S (cs1 (cLoopN n x) KX) hev hcall ρ0 nx0 w0 ρ w ac N hxt) ?_
    rintro e a' w' ⟨ex, S', ρ', h1, h2, h3, h4, h5⟩
    cases h5 with
    | nrm =>
      have h1 : cLoopN n x S' KX = true := h1
      show Code.rounds C.P a (Post C S.call KX ρ0 nx0 w0) n a' w'
      rw [← h2]
      exact ih S' h1 (by rw [h2]; exact hcall) ρ' w' a' h3 h4
    | ex id => exact ⟨.ex id, S', ρ', h1, h2, h3, h4, .ex id⟩
    | rt => exact ⟨.rt, S', ρ', h1, h2, h3, h4, .rt⟩
    | pn v c hv => exact ⟨.pn v, S', ρ', h1, h2, h3, h4, .pn v c hv⟩
theorem block_co {id : Nat} {a : Code} {x : CoT} (hx : CoOk C a x) : CoOk C (.block id a) (fun S K => x S (cb1 id K)) := by
  intro S KX hev hcall ρ0 nx0 w0 ρ w ac N hxt
  refine wp_block (wp_mono (hx S (cb1 id KX) hev hcall ρ0 nx0 w0 ρ w ac N hxt) ?_)
  rintro e a' w' ⟨ex, S', ρ', h1, h2, h3, h4, h5⟩
  cases h5 with
  | nrm => exact ⟨.nrm, S', ρ', h1, h2, h3, h4, .nrm⟩
  | ex i =>
    have h1 : ifb (Nat.beq i id) (KX .nrm S') (KX (.ex i) S') = true := h1
    rw [ifb_eq, beqN_eq] at h1
    show if i = id then Post C S.call KX ρ0 nx0 w0 .normal a' w' else Post C S.call KX ρ0 nx0 w0 (.exit i) a' w'
    by_cases e1 : i = id
    · rw [if_pos e1]
      simp [e1] at h1
      exact ⟨.nrm, S', ρ', h1, h2, h3, h4, .nrm⟩
    · rw [if_neg e1]
      simp [e1] at h1
      exact ⟨.ex i, S', ρ', h1, h2, h3, h4, .ex i⟩
  | rt => exact ⟨.rt, S', ρ', h1, h2, h3, h4, .rt⟩
  | pn v c hv => exact ⟨.pn v, S', ρ', h1, h2, h3, h4, .pn v c hv⟩
theorem fail_co (c : Code) : CoOk C c (evC failCo) := fun _ _ hev => nomatch (show false = true from hev)
theorem code_ok (hfol : C.P.follows .mixedOrders = true) (hix : IxOk C.P C.ix) : ∀ (c : Code) (co : Co), C.code c = some co → CoOk C c (evC co) := by
  intro c
  fun_induction Cx.code C c with
  | case1 => intro co hc; cases hc; exact fun S KX hev hcall ρ0 nx0 w0 ρ w a N hx => wp_skip ⟨.nrm, S, ρ, hev, rfl, N, hx, .nrm⟩
  | case2 => intro co hc; cases hc; exact fun S KX hev hcall ρ0 nx0 w0 ρ w a N hx => wp_label ⟨.nrm, S, ρ, hev, rfl, N, hx, .nrm⟩
  | case3 id ops draw q hq => intro co hc; cases hc; exact reg_co hfol hix hq
  | case4 id ops draw hq => intro co hc; cases hc; exact fail_co _
  | case5 id ops draw t x y q hq ih2 ih1 =>
    intro co hc
    obtain ⟨cx, hcx, hc⟩ := Option.bind_eq_some_iff.1 hc
    obtain ⟨cy, hcy, hc⟩ := Option.bind_eq_some_iff.1 hc
    split at hc
    · rename_i r hr
      cases hc
      exact regc_co hfol hix hq hr (ih2 _ hcx) (ih1 _ hcy)
    · split at hc
      · rename_i k hk
        cases hc
        exact seq_co (reg_co hfol hix hq) (cond_co (k := .v k) (by show (slotOf C.pers t).map X.v = some (.v k); rw [hk]; rfl) (ih2 _ hcx) (ih1 _ hcy))
      · cases hc; exact fail_co _
  | case6 => intro co hc; cases hc; exact fail_co _
  | case7 a b _ ih2 ih1 =>
    intro co hc
    obtain ⟨x, hx, hc⟩ := Option.bind_eq_some_iff.1 hc
    obtain ⟨y, hy, rfl⟩ := Option.map_eq_some_iff.1 hc
    exact seq_co (ih2 _ hx) (ih1 _ hy)
  | case8 c a b k hk ih2 ih1 =>
    intro co hc
    obtain ⟨x, hx, hc⟩ := Option.bind_eq_some_iff.1 hc
    obtain ⟨y, hy, rfl⟩ := Option.map_eq_some_iff.1 hc
    exact cond_co hk (ih2 _ hx) (ih1 _ hy)
  | case9 => intro co hc; cases hc; exact fail_co _
  | case10 id a ih1 =>
    intro co hc
    obtain ⟨x, hx, rfl⟩ := Option.map_eq_some_iff.1 hc
    exact block_co (ih1 _ hx)
  | case11 a ih1 =>
    intro co hc
    obtain ⟨x, hx, rfl⟩ := Option.map_eq_some_iff.1 hc
    exact loop_co (ih1 _ hx) 1000000
  | case12 id => intro co hc; cases hc; exact fun S KX hev hcall ρ0 nx0 w0 ρ w a N hx => wp_exit ⟨.ex id, S, ρ, hev, rfl, N, hx, .ex id⟩
  | case13 => intro co hc; cases hc; exact fun S KX hev hcall ρ0 nx0 w0 ρ w a N hx => wp_ret ⟨.rt, S, ρ, hev, rfl, N, hx, .rt⟩
  | case14 a ih1 =>
    intro co hc S KX hev hcall ρ0 nx0 w0 ρ w ac N hx
    refine wp_scope_straight (wp_mono (ih1 co hc S KX hev hcall ρ0 nx0 w0 ρ w ac N hx) ?_)
    intro e a' w' hp
    cases e with
    | goto l => obtain ⟨x, S', ρ', _, _, _, _, h5⟩ := hp; cases h5
    | _ => exact hp
  | case15 => intro co hc; cases hc; exact fail_co _
end
end Go.Ev
set_option linter.constructorNameAsVariable false
namespace Go.Ev
open Go
variable {w : World} {ρ : Ren} {h : Heap} {nx : BK}

/-! ### parameters -/
theorem lcase_inv {α : Type} {l : List α} {K : α → List α → Bool} (hh : lcase l false K = true) : ∃ x r, l = x :: r ∧ K x r = true := by
  cases l with
  | nil => cases hh
  | cons x r => exact ⟨x, r, rfl, hh⟩
theorem setPar_inv : ∀ (ps : List VK) (args : List AV) (e : Env) (K : Env → Bool), setPar ps args e K = true →
    ps.length = args.length ∧ ∃ e', K e' = true ∧ ∀ k, (∃ (i : Nat) (v : AV), ps[i]? = some k ∧ args[i]? = some v ∧ vat e' k = v) ∨ ((∀ i : Nat, ps[i]? ≠ some k) ∧ vat e' k = vat e k) := by
  intro ps
  induction ps with
  | nil =>
    intro args e K hh
    obtain ⟨h1, h2⟩ := ifb_true (show ifb (nul args) (K e) false = true from hh)
    rw [nul_eq] at h1
    have : args = [] := by simpa using h1
    subst this
    exact ⟨rfl, e, h2, fun k => .inr ⟨fun i => by simp, rfl⟩⟩
  | cons p ps ih =>
    intro args e K hh
    obtain ⟨v, r, rfl, h1⟩ := lcase_inv (show lcase args false (sp1 p (setPar ps) e K) = true from hh)
    have h1 : vput e p v (sp3 (setPar ps) r K) = true := h1
    obtain ⟨e1, g1, g2⟩ := vput_ex e p v
    rw [g1] at h1
    obtain ⟨hl, e', h2, h3⟩ := ih r e1 K h1
    refine ⟨by simp [hl], e', h2, fun k => ?_⟩
    rcases h3 k with ⟨i, x, q1, q2, q3⟩ | ⟨q1, q2⟩
    · exact .inl ⟨i + 1, x, by simpa using q1, by simpa using q2, q3⟩
    · rw [g2] at q2
      by_cases hk : k = p
      · subst hk
        rw [if_pos rfl] at q2
        exact .inl ⟨0, v, rfl, rfl, q2⟩
      · rw [if_neg hk] at q2
        refine .inr ⟨fun i => ?_, q2⟩
        cases i with
        | zero => simp; exact fun e => hk e.symm
        | succ i => simpa using q1 i
/-- the slots of the first temporaries -/
def Cx.slots (C : Cx) : Nat → Nat → Option (List VK)
  | _, 0 => some []
  | i, n + 1 => (slotOf C.pers i).bind fun k => (C.slots (i + 1) n).map fun l => k :: l
theorem slots_at {C : Cx} : ∀ {n i : Nat} {l : List VK}, C.slots i n = some l → l.length = n ∧ ∀ (j : Nat) k, l[j]? = some k → slotOf C.pers (i + j) = some k := by
  intro n
  induction n with
  | zero => intro i l hl; cases hl; exact ⟨rfl, fun j k hk => by simp at hk⟩
  | succ n ih =>
    intro i l hl
    obtain ⟨k, hk, hl⟩ := Option.bind_eq_some_iff.1 hl
    obtain ⟨r, hr, rfl⟩ := Option.map_eq_some_iff.1 hl
    obtain ⟨h1, h2⟩ := ih hr
    refine ⟨by simp [h1], fun j k' hk' => ?_⟩
    cases j with
    | zero => simp at hk'; subst hk'; exact hk
    | succ j =>
      have := h2 j k' (by simpa using hk')
      have e1 : i + (j + 1) = i + 1 + j := by omega
      rw [e1]; exact this
/-- a frame as it is entered -/
def entered (cs : List Value) (nt : Nat) : Act := { tmps := cs.toArray ++ Array.replicate (nt - cs.toArray.size) undef, defers := [] }
theorem entered_env {C : Cx} {ps : List VK} {np : Nat} {args : List AV} {cs : List Value} {e' : Env} (hp : C.slots 0 np = some ps) (hv : Vs ρ args cs)
    (he : ∀ k, (∃ (i : Nat) (v : AV), ps[i]? = some k ∧ args[i]? = some v ∧ vat e' k = v) ∨ ((∀ i : Nat, ps[i]? ≠ some k) ∧ vat e' k = .k .x)) (nt : Nat) : EnvR ρ C.pers e' (entered cs nt) := by
  intro t k hk
  rcases he k with ⟨i, v, q1, q2, q3⟩ | ⟨_, q2⟩
  · have hs := (slots_at hp).2 i k q1
    rw [Nat.zero_add] at hs
    have := slotOf_inj hs hk
    subst this
    have hi : i < args.length := (List.getElem?_eq_some_iff.1 q2).1
    have hi' : i < cs.length := by rw [← hv.1]; exact hi
    have hc : (entered cs nt).tmps.getD i undef = cs[i] := by
      unfold entered
      rw [Array.getD_eq_getD_getElem?, Array.getElem?_append_left (by simpa using hi')]
      simp [hi']
    rw [hc, q3]
    exact hv.2 i v _ q2 (by simp [hi'])
  · rw [q2]; exact .x _
theorem entered_size {cs : List Value} {nt : Nat} (hle : cs.length ≤ nt) : (entered cs nt).tmps.size = nt := by
  simp [entered]; omega

/-! ### results -/
def Cx.res (C : Cx) : List ResultVar → Option (List RV)
  | [] => some []
  | .tmp t :: l => (slotOf C.pers t).bind fun k => (C.res l).map fun r => .t k :: r
  | .cell a t :: l => (slotOf C.pers a).bind fun k => (C.res l).bind fun r => match aggT C.P t with
    | some true => (szOf C.P t).bind fun n => if n = 0 then none else some (.c k (some n) :: r)
    | some false => some (.c k none :: r)
    | none => none
def resF (tmps : Array Value) : ResultVar → Sem Value
  | .tmp t => pure (tmps.getD t undef)
  | .cell a t => do loadVar t (← asAddr (tmps.getD a undef))
theorem asAddr_load {P : Program} {t : TypeId} {c r : Value} {w : World} (hl : (Instr.loadAt t c).run P w = .ok r w) (hp : ∃ a, c = .pointer (some a)) : (do loadVar t (← asAddr c) : Sem Value).run P w = .ok r w := by
  obtain ⟨a, rfl⟩ := hp
  exact hl
theorem res_ok {C : Cx} {a : Act} {e : Env} (hr : Rel ρ h nx w) (he : EnvR ρ C.pers e a) : ∀ (rs : List ResultVar) (l : List RV) (K : List AV → Bool), C.res rs = some l → resAll l e h K = true →
    ∃ vs cs, K vs = true ∧ Vs ρ vs cs ∧ (rs.mapM (resF a.tmps)).run C.P w = .ok cs w := by
  intro rs
  induction rs with
  | nil => intro l K hl hh; cases hl; exact ⟨[], [], hh, Vs.nil _, by simp⟩
  | cons r rs ih =>
    intro l K hl hh
    have fin : ∀ {k : VK} {q : RV} {l' : List RV} {t : Tmp} {f : (AV → Bool) → Bool}, slotOf C.pers t = some k → C.res rs = some l' → resAll (q :: l') e h K = true → (resOf q e h (rs1 (resAll l') e h K) = true → ∃ v c, rs1 (resAll l') e h K v = true ∧ V ρ v c ∧ (resF a.tmps r).run C.P w = .ok c w) →
        ∃ vs cs, K vs = true ∧ Vs ρ vs cs ∧ ((r :: rs).mapM (resF a.tmps)).run C.P w = .ok cs w := by
      intro k q l' t f hk hl' hh hq
      obtain ⟨v, c, q1, q2, q3⟩ := hq hh
      obtain ⟨vs, cs, g1, g2, g3⟩ := ih l' (kcons K v) hl' q1
      refine ⟨v :: vs, c :: cs, g1, Vs.cons q2 g2, ?_⟩
      rw [List.mapM_cons]
      simp [q3, g3]
    cases r with
    | tmp t =>
      obtain ⟨k, hk, hl⟩ := Option.bind_eq_some_iff.1 hl
      obtain ⟨l', hl', rfl⟩ := Option.map_eq_some_iff.1 hl
      refine fin (f := fun _ => true) hk hl' hh fun hq => ?_
      obtain ⟨_, h2⟩ := frcV_inv (show frcV (vat e k) (rs1 (resAll l') e h K) = true from hq)
      exact ⟨_, _, h2, he t k hk, rfl⟩
    | cell t ty =>
      obtain ⟨k, hk, hl⟩ := Option.bind_eq_some_iff.1 hl
      obtain ⟨l', hl', hl⟩ := Option.bind_eq_some_iff.1 hl
      split at hl
      · rename_i ht
        obtain ⟨n, hn, hl⟩ := Option.bind_eq_some_iff.1 hl
        split at hl
        · cases hl
        · rename_i h0
          cases hl
          refine fin (f := fun _ => true) hk hl' hh fun hq => ?_
          have hq : asP (vat e k) (cellsAt h n (kagg (rs1 (resAll l') e h K))) = true := hq
          obtain ⟨y, h1, h2⟩ := lda_ok (P := C.P) ty n ht hn h0 hq
          obtain ⟨r, q1, q2⟩ := h2 ρ nx w _ hr (he t k hk)
          refine ⟨y, r, h1, q1, asAddr_load q2 ?_⟩
          obtain ⟨kk, oo, ev, _⟩ := asP_inv hq
          have := he t k hk
          rw [ev] at this
          generalize a.tmps.getD t undef = cc at this
          cases this
          exact ⟨_, rfl⟩
      · rename_i ht
        cases hl
        refine fin (f := fun _ => true) hk hl' hh fun hq => ?_
        obtain ⟨h1, h2⟩ := frcV_inv (show frcV (ldV (vat e k) h) (rs1 (resAll l') e h K) = true from hq)
        obtain ⟨r, q1, q2⟩ := ld_ok (P := C.P) ty ht hr (he t k hk) h1
        refine ⟨_, r, h2, q1, asAddr_load q2 ?_⟩
        obtain ⟨kk, oo, _, l, x, ev, _⟩ := ldV_inv h1
        have := he t k hk
        rw [ev] at this
        generalize a.tmps.getD t undef = cc at this
        cases this
        exact ⟨_, rfl⟩
      · cases hl
theorem resV_ok {C : Cx} {a : Act} {e : Env} {fn : Func} {l : List RV} {K : AV → Bool} (hr : Rel ρ h nx w) (he : EnvR ρ C.pers e a) (hl : C.res fn.results.toList = some l) (hh : resV l e h K = true) :
    ∃ v c, K v = true ∧ V ρ v c ∧ (results fn a.tmps).run C.P w = .ok c w := by
  obtain ⟨vs, cs, h1, h2, h3⟩ := res_ok hr he fn.results.toList l (rv0 K) hl (show resAll l e h (rv0 K) = true from hh)
  have hrun : (results fn a.tmps).run C.P w = .ok (if hx : cs.toArray.size = 1 then cs.toArray[0] else .tuple cs.toArray) w := by
    have e1 : results fn a.tmps = (do let vs ← fn.results.mapM (resF a.tmps); pure (if h : vs.size = 1 then vs[0] else .tuple vs)) := rfl
    rw [e1, Array.mapM_eq_mapM_toList]
    simp [h3]
  cases vs with
  | nil =>
    have : cs = [] := h2.inv_nil
    subst this
    exact ⟨.tup [], _, h1, V.tup' (Vs.nil _), hrun⟩
  | cons v vs =>
    obtain ⟨c, r, rfl, g1, g2⟩ := h2.inv_cons
    cases vs with
    | nil =>
      have : r = [] := g2.inv_nil
      subst this
      exact ⟨v, c, h1, g1, hrun⟩
    | cons v' vs =>
      obtain ⟨c', r', rfl, g3, g4⟩ := g2.inv_cons
      refine ⟨.tup (v :: v' :: vs), .tuple (c :: c' :: r').toArray, h1, V.tup' (by simpa using h2), ?_⟩
      rw [hrun]
      simp
end Go.Ev
set_option linter.constructorNameAsVariable false
namespace Go.Ev
open Go
variable {w : World} {ρ : Ren} {h : Heap} {nx : BK}

/-! ### deferred functions -/
theorem upon_mono {P : Program} {o : Oper} {a : Act} {K K' : Act → World → Prop} {Q : Exit → Act → World → Prop} {r : Result Next} (hK : ∀ a w, K a w → K' a w) (hh : o.upon P a K Q r) : o.upon P a K' Q r := by
  cases r with
  | ok n w' =>
    cases n <;> simp only [Oper.upon] at hh ⊢ <;>
      first
        | exact hK _ _ hh
        | exact Calls.mono hh (fun e w'' he => by cases e <;> first | exact hK _ _ he | exact he)
        | exact Rows.mono hh (fun _ _ he => hK _ _ he)
  | halt x w' => cases x <;> simp only [Oper.upon] at hh ⊢ <;> exact hh
theorem wpOpsS_of {P : Program} {ops : Array Oper} {Q : Exit → Act → List Frame → World → Prop} {cs : List Frame} (hQ : ∀ a w, ¬ Q .outgrown a cs w) : ∀ (l : List Nat) (a : Act) (w : World), wpOps P ops (fun e a w => Q e a cs w) l a w → wpOpsS P ops Q l a cs w := by
  intro l
  induction l with
  | nil => exact fun a w hh => hh
  | cons i l ih =>
    intro a w hh
    unfold wpOps at hh
    unfold wpOpsS
    cases ho : ops[i]? with
    | none => rw [ho] at hh; exact ih a w hh
    | some o =>
      rw [ho] at hh
      simp only at hh ⊢
      by_cases hw : Region.wanted o (yielded ops a.tmps) = true
      · rw [if_pos hw] at hh ⊢
        rcases hh with hh | ⟨_, a', w', hq⟩
        · have hh : o.upon P a (wpOps P ops (fun e a w => Q e a cs w) l) (fun e a w => Q e a cs w) ((execOp a.eval o).run P w) := hh
          split
          · rename_i w' hr
            rw [hr] at hh
            exact hh.elim
          · exact upon_mono (fun a w => ih a w) hh
        · exact absurd hq (hQ a' w')
      · rw [if_neg hw] at hh ⊢
        exact ih _ _ hh
/-- what a deferred function meets: its caller returns, or it panics with a value -/
inductive Meets (ρ : Ren) : AV → FrameMode → Prop
  | ret : Meets ρ (.k .ifn) .returning
  | pan (v : AV) (c : Value) (hv : V ρ v c) : Meets ρ v (.panicking [{ v := c, recovered := false }])
def DEnds (ρ : Ren) (nx : BK) (w : World) (K : Heap → BK → Bool) : Ending → FrameMode → World → Prop := fun en u w' => ∃ ρ' h' nx' c, Rel ρ' h' nx' w' ∧ Ext ρ nx w ρ' nx' w' ∧ en = .returned c ∧ settle u = .returning ∧ K h' nx' = true
/-- a deferred function -/
def DefOk (P : Program) (f : FK) (A : AF) : Prop := Enters P f.val ∧ ∀ call args v h nx K, CallOk P call → rd1 call v h nx K args A.params A.body A.results = true →
  ∀ ρ w cs u, Rel ρ h nx w → Vs ρ args cs → Meets ρ v u → CallsD P f.val cs.toArray u w (DEnds ρ nx w K)
def isRec (o : Oper) : Bool := match o.guard, o.op with
  | none, .call c => match c.callee with
    | .builtin .recover => true
    | _ => false
  | _, _ => false
theorem isRec_run {P : Program} {o : Oper} (hr : isRec o = true) (ρ : Operand → Value) (w : World) : (execOp ρ o).run P w = .ok .recover w ∧ o.guard = none := by
  obtain ⟨ds, op, ty, pos, af, gd⟩ := o
  unfold isRec at hr
  split at hr
  · rename_i c hg hop
    simp only at hg hop
    subst hg hop
    obtain ⟨callee, args, ats⟩ := c
    simp only at hr
    split at hr
    · obtain ⟨cs, hcs⟩ := call_builtin .recover args ats ρ ds ty pos af none
      rw [hcs]
      exact ⟨rfl, rfl⟩
    · cases hr
  · cases hr
theorem one_bit (i : Nat) : Nat.testBit 1 i = decide (i = 0) := by
  have h := @Nat.testBit_two_pow 0 i
  have e : (2 ^ 0 : Nat) = 1 := rfl
  rw [e] at h
  rw [h]
  by_cases e1 : i = 0
  · subst e1; rfl
  · have : ¬ 0 = i := fun e => e1 e.symm
    simp [e1, this]
def wsR : Ws := ⟨0, [(0, .s rcv)], 1, 0⟩
def Cx.def? (C : Cx) : Code → Option Co
  | .seq (.region _ ops false) rest =>
    (ops[0]?).bind fun o => if isRec o && (C.rg ops false).dstOk 0 o && o.dst.isSome then
      ((C.rg ops false).walk (List.range' 1 (ops.size - 1)) wsR).bind fun q => if q.2.done = 2 ^ ops.size - 1 then
        (C.code rest).map fun r => .seq (.reg q.1 ((C.rg ops false).sets q.2 (List.range ops.size))) r
      else none
    else none
  | _ => none
theorem recoverD_pan {c₀ : Frame} {cs : List Frame} {c : Value} (hm : c₀.mode = .panicking [{ v := c, recovered := false }]) : recoverD (c₀ :: cs) = some (c, { c₀ with mode := .panicking [{ v := c, recovered := true }] } :: cs) := by
  simp [recoverD, hm]
theorem recoverD_ret {c₀ : Frame} {cs : List Frame} (hm : c₀.mode = .returning) : recoverD (c₀ :: cs) = none := by
  simp [recoverD, hm]
/-- how a deferred body ends -/
def PostS (C : Cx) (cl : CT) (KX : KX) (ρ0 : Ren) (nx0 : BK) (w0 : World) (cs1 : List Frame) : Exit → Act → List Frame → World → Prop := fun e a cs w => cs = cs1 ∧ Post C cl KX ρ0 nx0 w0 e a w
theorem Post_out {C : Cx} {cl : CT} {KX : KX} {ρ0 : Ren} {nx0 : BK} {w0 : World} {a : Act} (hp : Post C cl KX ρ0 nx0 w0 .outgrown a w) : False := by
  obtain ⟨x, S, ρ, _, _, _, _, h5⟩ := hp
  cases h5
theorem def_ok {C : Cx} (hfol : C.P.follows .mixedOrders = true) (hix : IxOk C.P C.ix) {c : Code} {co : Co} (hc : C.def? c = some co) {S : St} {KX : KX} (hev : evC co S KX = true) (hcall : CallOk C.P S.call) {a : Act} {ρ0 : Ren} {nx0 : BK} {w0 : World} (N : Now C S a w ρ) (hx : Ext ρ0 nx0 w0 ρ S.nx w)
    {u : FrameMode} (hm : Meets ρ (vat S.e rcv) u) (c₀ : Frame) (cs : List Frame) (hu : c₀.mode = u) : ∃ u', settle u' = .returning ∧ c.wpS C.P (PostS C S.call KX ρ0 nx0 w0 ({ c₀ with mode := u' } :: cs)) a (c₀ :: cs) w := by
  unfold Cx.def? at hc
  split at hc
  · rename_i id ops rest
    obtain ⟨o, ho, hc⟩ := Option.bind_eq_some_iff.1 hc
    split at hc
    · rename_i hcond
      simp only [Bool.and_eq_true] at hcond
      obtain ⟨⟨c1, c2⟩, c3⟩ := hcond
      obtain ⟨q, hq, hc⟩ := Option.bind_eq_some_iff.1 hc
      split at hc
      · rename_i hdone
        obtain ⟨r, hr, rfl⟩ := Option.map_eq_some_iff.1 hc
        obtain ⟨its, wsE⟩ := q
        simp only at hdone
        obtain ⟨d, hd⟩ := Option.isSome_iff_exists.1 c3
        have hall := done_all hdone
        have hn0 : 0 < ops.size := (Array.getElem?_eq_some_iff.1 ho).1
        have hev : evIts its S (krg ((C.rg ops false).sets wsE (List.range ops.size)) (cs1 (evC r) KX)) [] = true := hev
        -- behind the first operation
        have key : ∀ (v : Value), V ρ (vat S.e rcv) v → ∀ cs' : List Frame, wpOpsS C.P ops (Exit.thenS (rest.wpS C.P (PostS C S.call KX ρ0 nx0 w0 cs')) (PostS C S.call KX ρ0 nx0 w0 cs')) (List.range' 1 (ops.size - 1)) (a.put o.dst v) cs' w := by
          intro v hv cs'
          refine wpOpsS_of (fun a w hh => Post_out hh.2) _ _ _ ?_
          have hlt : d < C.nt := by
            unfold Rg.dstOk at c2
            rw [hd] at c2
            simp at c2
            exact c2.1
          have hwr : lkp (wrOf ops.toList 0) d = some 0 := by
            unfold Rg.dstOk at c2
            rw [hd] at c2
            simp only [Bool.and_eq_true, decide_eq_true_eq] at c2
            exact c2.2
          have I : (C.rg ops false).Inv ⟨a, ρ, S.nx, w⟩ wsR S [] (fun _ => none) [0] (a.put o.dst v) w ρ := by
            refine { len := rfl, ok := ?_, hd := ?_, he := fun i hi => by simp [wsR] at hi, cl := ?_, dst := ?_, rel := N.rel, ext := Ext.refl _ _ _, sub := ?_, clo := ?_, put := ?_, size := by rw [put_size]; exact N.size, keep := ?_, env := N.env, ds := by rw [put_defers]; exact N.ds, fact := ?_, kinj := fun i j k hi => (by cases hi), klt := fun i k hi => (by cases hi) }
            · intro i q hi
              have hi : (if i = 0 then some (Ref.s rcv) else none) = some q := hi
              split at hi
              · cases hi; trivial
              · cases hi
            · intro i
              show (1 : Nat).testBit i = true ↔ ∃ q, (if i = 0 then some (Ref.s rcv) else none) = some q
              by_cases e1 : i = 0
              · subst e1; simp
              · simp [e1, one_bit]
            · intro i q hi j hj
              have hi : (if i = 0 then some (Ref.s rcv) else none) = some q := hi
              split at hi
              · rename_i e1
                subst e1
                have := (befU (G := C.rg ops false) (i := 0) rfl).1 hj
                omega
              · cases hi
            · intro i q hi
              have hi : (if i = 0 then some (Ref.s rcv) else none) = some q := hi
              split at hi
              · rename_i e1
                subst e1
                refine ⟨o, ho, c2, ?_⟩
                unfold Rg.guardOk
                rw [(isRec_run (P := C.P) c1 a.eval w).2]
              · cases hi
            · intro i hi
              have : i = 0 := by simpa using hi
              subst this
              exact ⟨.s rcv, rfl⟩
            · intro i hi j hj
              have : i = 0 := by simpa using hi
              subst this
              have := (befU (G := C.rg ops false) (i := 0) rfl).1 hj
              omega
            · intro i hi oi ri di hoi hdi hli
              have : i = 0 := by simpa using hi
              subst this
              have e1 : oi = o := by
                have hoi : ops[0]? = some oi := hoi
                rw [ho] at hoi; exact (Option.some.inj hoi).symm
              subst e1
              have e2 : ri = .s rcv := by
                have hli : some (Ref.s rcv) = some ri := hli
                exact (Option.some.inj hli).symm
              subst e2
              have : di = d := by rw [hd] at hdi; exact (Option.some.inj hdi).symm
              subst this
              rw [hd, put_same (by rw [N.size]; exact hlt)]
              exact hv
            · intro t ht
              have h0 := ht 0 (by simp) o ho
              rw [put_other h0]
            · intro i q hi hiD
              have hi : (if i = 0 then some (Ref.s rcv) else none) = some q := hi
              split at hi
              · rename_i e1
                exact absurd (by simp [e1]) hiD
              · cases hi
          have hloc := walk_loc (G := C.rg ops false) hq (fun i hi => by
            have hi : (1 : Nat).testBit i = true := hi
            have : i = 0 := by
              by_cases e1 : i = 0
              · exact e1
              · simp [one_bit, e1] at hi
            subst this
            exact ⟨.s rcv, rfl⟩)
          have hmain := Rg.main (G := C.rg ops false) (B := ⟨a, ρ, S.nx, w⟩) (e := S.e) (cl := S.call) (K := krg ((C.rg ops false).sets wsE (List.range ops.size)) (cs1 (evC r) KX))
            (Q := fun e a w => Exit.thenS (rest.wpS C.P (PostS C S.call KX ρ0 nx0 w0 cs')) (PostS C S.call KX ρ0 nx0 w0 cs') e a cs' w) (wrs_ok C ops false) hix rfl hcall (glU (G := C.rg ops false) ops.size rfl) hall ?_ ?_ (List.range' 1 (ops.size - 1)) wsR its hq S [] (fun _ => none) [0] (a.put o.dst v) w ρ hev rfl rfl I
          · have := hmain 1 (by omega) (fun i => by simp)
            exact this
          · intro S' st ky D a' w' ρ' hK hcl he I hD
            have hK : setAll ((C.rg ops false).sets wsE (List.range ops.size)) st S'.e S'.e (kee .nrm S' (cs1 (evC r) KX)) = true := hK
            obtain ⟨e', h1, h2⟩ := setAll_inv _ _ _ _ _ hK
            have h1 : S'.withE e' (cs1 (evC r) KX .nrm) = true := h1
            rw [St.withE_eq] at h1
            have h1 : evC r (S'.setE e') KX = true := h1
            have N' : Now C (S'.setE e') a' w' ρ' := Now.setE I.rel (I.slots rfl hD h2) I.ds I.size
            have hcl' : (S'.setE e').call = S.call := (St.setE_call ..).trans hcl
            show rest.wpS C.P (PostS C S.call KX ρ0 nx0 w0 cs') a' cs' w'
            refine wpS_of_wp (wp_mono (code_ok hfol hix rest r hr (S'.setE e') KX h1 (by rw [hcl']; exact hcall) ρ0 nx0 w0 ρ' w' a' N' (by rw [St.setE_nx]; exact hx.trans I.ext)) ?_)
            intro en a'' w'' hp
            rw [hcl'] at hp
            exact ⟨rfl, hp⟩
          · intro S' v' c' a' w' ρ' hK hcl he hv' I
            refine ⟨rfl, ?_⟩
            have hK : clrAll ((C.rg ops false).sets wsE (List.range ops.size)) [] S'.e S'.e (kee (.pn v') S' (cs1 (evC r) KX)) = true := hK
            obtain ⟨e', h1, h2⟩ := clrAll_inv _ _ _ _ _ hK
            have h1 : S'.withE e' (cs1 (evC r) KX (.pn v')) = true := h1
            rw [St.withE_eq] at h1
            refine ⟨.pn v', S'.setE e', ρ', h1, (St.setE_call ..).trans hcl, Now.setE I.rel ?_ I.ds I.size, by rw [St.setE_nx]; exact hx.trans I.ext, .pn v' c' hv'⟩
            exact I.slots rfl (by rw [he]; exact N.env) (fun i hi => hloc i (hall i hi)) h2
        have first : ∀ (cs0 : List Frame) (Q : Exit → Act → List Frame → World → Prop), (match recoverD cs0 with
            | some (v, cs') => wpOpsS C.P ops Q (List.range' 1 (ops.size - 1)) (a.put o.dst v) cs' w
            | none => wpOpsS C.P ops Q (List.range' 1 (ops.size - 1)) (a.put o.dst .nilIface) cs0 w) → wpOpsS C.P ops Q (List.range ops.size) a cs0 w := by
          intro cs0 Q hh
          obtain ⟨n, hn⟩ : ∃ n, ops.size = n + 1 := ⟨ops.size - 1, by omega⟩
          rw [hn, List.range_eq_range', List.range'_succ]
          obtain ⟨g1, g2⟩ := isRec_run (P := C.P) c1 a.eval w
          unfold wpOpsS
          rw [ho]
          have hw : Region.wanted o (yielded ops a.tmps) = true := by unfold Region.wanted; rw [g2]
          simp only [hw, if_true, g1]
          rw [hn] at hh
          exact hh
        obtain ⟨x, hrv⟩ : ∃ x, x = vat S.e rcv := ⟨_, rfl⟩
        rw [← hrv] at hm key
        cases hm with
        | ret =>
          refine ⟨.returning, rfl, wpS_seq (wpS_region (first _ _ ?_))⟩
          rw [recoverD_ret hu]
          have : c₀ = { c₀ with mode := .returning } := by rw [← hu]
          rw [← this]
          exact key .nilIface .ifn _
        | pan _ c hv =>
          refine ⟨.panicking [{ v := c, recovered := true }], rfl, wpS_seq (wpS_region (first _ _ ?_))⟩
          rw [recoverD_pan hu]
          exact key c hv _
      · cases hc
    · cases hc
  · cases hc
end Go.Ev
set_option linter.constructorNameAsVariable false
namespace Go.Ev
open Go
variable {w : World} {ρ : Ren} {h : Heap} {nx : BK}

/-! ### functions -/
def nameOk (fn : Func) : Bool := !(fn.name == "runtime.NumGoroutine")
def Cx.fun? (C : Cx) (fn : Func) : Option AF :=
  fn.body.bind fun c => (C.code c).bind fun co => (C.slots 0 (fn.params.size + fn.nfree)).bind fun ps => (C.res fn.results.toList).bind fun rs =>
    if fn.params.size + fn.nfree ≤ C.nt ∧ C.nt = fn.ntmps ∧ nameOk fn = true then some ⟨ps, co, rs⟩ else none
def Cx.dfun? (C : Cx) (fn : Func) : Option AF :=
  fn.body.bind fun c => (C.def? c).bind fun co => (C.slots 0 (fn.params.size + fn.nfree)).bind fun ps =>
    if fn.params.size + fn.nfree ≤ C.nt ∧ C.nt = fn.ntmps ∧ nameOk fn = true ∧ fn.results.toList.isEmpty = true then some ⟨ps, co, []⟩ else none
def AfOk (P : Program) (dtab : Tab) (f : FK) (A : AF) : Prop := Enters P f.val ∧ ∀ call args h nx K Q, CallOk P call → rf0 dtab call args h nx K Q A.params A.body A.results = true →
  ∀ ρ w cs, Rel ρ h nx w → Vs ρ args cs → Calls P f.val cs.toArray w (Ends ρ nx w K Q)
theorem ocase_inv {o : Option AF} {K : List VK → Co → List RV → Bool} (hh : ocase o K = true) : ∃ A, o = some A ∧ K A.params A.body A.results = true := by
  cases o with
  | none => cases hh
  | some A => cases A; exact ⟨_, rfl, hh⟩
theorem callA_ok {P : Program} {tab dtab : Tab} (ht : ∀ f A, tget tab f = some A → AfOk P dtab f A) : ∀ n, CallOk P (callA tab dtab n) := by
  intro n
  induction n with
  | zero => intro f args h nx K Q hh; cases hh
  | succ n ih =>
    intro f args h nx K Q hh
    obtain ⟨A, hA, hh⟩ := ocase_inv (show ocase (tget tab f) (rf0 dtab (callA tab dtab n) args h nx K Q) = true from hh)
    obtain ⟨h1, h2⟩ := ht f A hA
    exact ⟨h1, h2 _ args h nx K Q ih hh⟩
theorem slot_rcv {pers : List Nat} {t : Nat} : slotOf pers t ≠ some rcv := by
  intro hh
  unfold slotOf at hh
  obtain ⟨i, hi, hh⟩ := Option.bind_eq_some_iff.1 hh
  split at hh
  · rename_i hlt
    have h1 : vkOf i = vkOf 63 := Option.some.inj hh
    have := vkOf_inj (by omega) (by omega) h1
    omega
  · cases hh
theorem nul_inv {α : Type} {l : List α} (hh : nul l = true) : l = [] := by cases l with | nil => rfl | cons x l => cases hh
theorem wpS_mono {P : Program} {c : Code} {Q Q' : Exit → Act → List Frame → World → Prop} {a : Act} {cs : List Frame} (hh : c.wpS P Q a cs w) (hq : ∀ e a cs w, Q e a cs w → Q' e a cs w) : c.wpS P Q' a cs w :=
  fun b k hb hr => let ⟨e, a', cs', w', q, r⟩ := hh b k hb hr; ⟨e, a', cs', w', hq _ _ _ _ q, r⟩
theorem dfun_ok {C : Cx} (hfol : C.P.follows .mixedOrders = true) (hix : IxOk C.P C.ix) {f : FK} {fn : Func} {A : AF} (hf : C.P.funcs[f.val]? = some fn) (hc : C.dfun? fn = some A) : DefOk C.P f A := by
  unfold Cx.dfun? at hc
  obtain ⟨c, hb, hc⟩ := Option.bind_eq_some_iff.1 hc
  obtain ⟨co, hco, hc⟩ := Option.bind_eq_some_iff.1 hc
  obtain ⟨ps, hps, hc⟩ := Option.bind_eq_some_iff.1 hc
  split at hc
  · rename_i hcond
    cases hc
    obtain ⟨c1, c2, c3, c4⟩ := hcond
    refine ⟨⟨fn, c, hf, hb, by unfold nameOk at c3; simpa using c3⟩, ?_⟩
    intro call args v h nx K hcall hh ρ w cs u hr hv hm
    obtain ⟨hlen, e1, h1, h2⟩ := setPar_inv _ _ _ _ (show setPar ps args env0 (rd2 co call v h nx K) = true from hh)
    have h1 : vput e1 rcv v (rd3 co call h nx K) = true := h1
    obtain ⟨e2, g1, g2⟩ := vput_ex e1 rcv v
    rw [g1] at h1
    have h1 : evC co (.mk call e2 [] h nx) (rd4 K) = true := h1
    have hle : cs.length ≤ fn.ntmps := by rw [← hv.1, ← hlen, (slots_at hps).1]; omega
    have N : Now C (.mk call e2 [] h nx) (entered cs fn.ntmps) w ρ := by
      refine ⟨hr, ?_, .nil, by rw [entered_size hle]; exact c2.symm⟩
      have := entered_env (ρ := ρ) (e' := e1) hps hv (fun k => by
        rcases h2 k with q | ⟨q1, q2⟩
        · exact .inl q
        · exact .inr ⟨q1, by rw [q2, vat_env0]⟩) fn.ntmps
      intro t k hk
      show V ρ (vat e2 k) _
      rw [g2, if_neg (fun e => slot_rcv (by rw [hk, e]))]
      exact this t k hk
    refine callsD_of_wpS hf hb fun c₀ fs hu => ?_
    have hrcv : vat (St.mk call e2 [] h nx).e rcv = v := by show vat e2 rcv = v; rw [g2, if_pos rfl]
    obtain ⟨u', hset, hwp⟩ := def_ok hfol hix hco h1 hcall N (Ext.refl ρ nx w) (u := u) (by rw [hrcv]; exact hm) c₀ fs hu
    refine wpS_mono hwp ?_
    rintro en a' cs' w' ⟨rfl, x, S', ρ', q1, q2, q3, q4, q5⟩
    obtain ⟨r1, r2⟩ := ifb_true (show ifb (nul S'.ds) (exd x S' K) false = true from q1)
    have hds : a'.defers = [] := by
      have := q3.ds
      rw [nul_inv r1] at this
      cases hx : a'.defers with
      | nil => rfl
      | cons d l => rw [hx] at this; cases this
    have hres : (results fn a'.tmps).run C.P w' = .ok (.tuple #[]) w' := by
      have e1 : fn.results = #[] := by simpa using c4
      simp [results, e1]
    cases q5 with
    | nrm => exact ⟨hds, u', rfl, _, hres, ρ', S'.h, S'.nx, _, q3.rel, q4, rfl, hset, r2⟩
    | rt => exact ⟨hds, u', rfl, _, hres, ρ', S'.h, S'.nx, _, q3.rel, q4, rfl, hset, r2⟩
    | ex id => cases r2
    | pn v c hv => cases r2
  · cases hc
theorem runD_ok {P : Program} {dtab : Tab} (hd : ∀ g A, tget dtab g = some A → DefOk P g A) {call : CT} (hcall : CallOk P call) {v d : AV} {K : Heap → BK → Bool} (hh : runD dtab call v K d h nx = true) {f : FK} {l r : List AV} {cl cr : Array Value} (hfn : d = .fn f l r) (h1 : Vs ρ l cl.toList) (h2 : Vs ρ r cr.toList)
    (hr : Rel ρ h nx w) {u : FrameMode} (hm : Meets ρ v u) {fn : Func} {tmps : Array Value} {R : Ending → World → Prop} {ds : List Deferred} (hrest : ∀ ρ' h' nx' w', Rel ρ' h' nx' w' → Ext ρ nx w ρ' nx' w' → K h' nx' = true → Leaves P fn tmps R ds .returning w') :
    Leaves P fn tmps R ({ target := .fn (.func f.val) cr, args := cl } :: ds) u w := by
  subst hfn
  have hh : app l r (rd0 dtab call f v h nx K) = true := hh
  rw [app_eq] at hh
  obtain ⟨A, hA, hh⟩ := ocase_inv (show ocase (tget dtab f) (rd1 call v h nx K (l ++ r)) = true from hh)
  obtain ⟨g1, g2⟩ := hd f A hA
  have hc := g2 call (l ++ r) v h nx K hcall hh ρ w (cl.toList ++ cr.toList) u hr (h1.append h2) hm
  have e1 : (cl.toList ++ cr.toList).toArray = cl ++ cr := by apply Array.ext'; simp
  rw [e1] at hc
  refine leaves_cons (f := f.val) (args := cl ++ cr) ?_ ?_ (hc.mono ?_)
  · cases hm <;> simp
  · show (callFunc f.val (cl ++ cr)).run P w = _
    exact enter_run g1 _ w
  · rintro en u' w' ⟨ρ', h', nx', c, q1, q2, rfl, q4, q5⟩
    show Leaves P fn tmps R ds (settle u') w'
    rw [q4]
    exact hrest ρ' h' nx' w' q1 q2 q5
theorem runDs_ok {P : Program} {dtab : Tab} (hd : ∀ g A, tget dtab g = some A → DefOk P g A) {call : CT} (hcall : CallOk P call) {fn : Func} {tmps : Array Value} {R : Ending → World → Prop} :
    ∀ (ds : List AV) (defs : List Deferred) (K : Heap → BK → Bool) (h : Heap) (nx : BK) (ρ : Ren) (w : World), DsR ρ ds defs → runDs ds dtab call K h nx = true → Rel ρ h nx w → (∀ ρ' h' nx' w', Rel ρ' h' nx' w' → Ext ρ nx w ρ' nx' w' → K h' nx' = true → Leaves P fn tmps R [] .returning w') → Leaves P fn tmps R defs .returning w := by
  intro ds
  induction ds with
  | nil =>
    intro defs K h nx ρ w hds hh hr hfin
    cases hds
    exact hfin ρ h nx w hr (Ext.refl _ _ _) hh
  | cons d ds ih =>
    intro defs K h nx ρ w hds hh hr hfin
    cases hds with
    | cons f l r cl cr h1 h2 hrest =>
      refine runD_ok hd hcall (show runD dtab call (.k .ifn) (runDs ds dtab call K) (.fn f l r) h nx = true from hh) rfl h1 h2 hr .ret ?_
      intro ρ' h' nx' w' hr' hx' hK
      exact ih _ K h' nx' ρ' w' (hrest.mono hx'.le) hK hr' (fun ρ'' h'' nx'' w'' hr'' hx'' hK' => hfin ρ'' h'' nx'' w'' hr'' (hx'.trans hx'') hK')
theorem fun_ok_co {C : Cx} {dtab : Tab} (hd : ∀ g A, tget dtab g = some A → DefOk C.P g A) {f : FK} {fn : Func} (hf : C.P.funcs[f.val]? = some fn) {c : Code} {co : Co} {ps : List VK} {rs : List RV} (hb : fn.body = some c) (hco : CoOk C c (evC co))
    (hps : C.slots 0 (fn.params.size + fn.nfree) = some ps) (hrs : C.res fn.results.toList = some rs) (c1 : fn.params.size + fn.nfree ≤ C.nt) (c2 : C.nt = fn.ntmps) (c3 : nameOk fn = true) : AfOk C.P dtab f ⟨ps, co, rs⟩ := by
  refine ⟨⟨fn, c, hf, hb, by unfold nameOk at c3; simpa using c3⟩, ?_⟩
  intro call args h nx K Q hcall hh ρ w cs hr hv
  obtain ⟨hlen, e1, h1, h2⟩ := setPar_inv _ _ _ _ (show setPar ps args env0 (rf1 dtab co rs call h nx K Q) = true from hh)
  have h1 : evC co (.mk call e1 [] h nx) (rf2 dtab rs K Q) = true := h1
  have hle : cs.length ≤ fn.ntmps := by rw [← hv.1, ← hlen, (slots_at hps).1]; omega
  have N : Now C (.mk call e1 [] h nx) (entered cs fn.ntmps) w ρ := by
    refine ⟨hr, ?_, .nil, by rw [entered_size hle]; exact c2.symm⟩
    exact entered_env (ρ := ρ) (e' := e1) hps hv (fun k => by
      rcases h2 k with q | ⟨q1, q2⟩
      · exact .inl q
      · exact .inr ⟨q1, by rw [q2, vat_env0]⟩) fn.ntmps
  refine calls_of_wp_defers hf hb (wp_mono (hco (.mk call e1 [] h nx) (rf2 dtab rs K Q) h1 hcall ρ nx w ρ w _ N (Ext.refl _ _ _)) ?_)
  rintro en a' w' ⟨x, S', ρ', q1, q2, q3, q4, q5⟩
  have hcall' : CallOk C.P S'.call := by rw [q2]; exact hcall
  have fin : ∀ ρ'' h'' nx'' w'', Rel ρ'' h'' nx'' w'' → Ext ρ' S'.nx w' ρ'' nx'' w'' → rfR rs S'.e K h'' nx'' = true → Leaves C.P fn a'.tmps (Ends ρ nx w K Q) [] .returning w'' := by
    intro ρ'' h'' nx'' w'' hr'' hx'' hK
    obtain ⟨v, c, g1, g2, g3⟩ := resV_ok (C := C) (a := a') (fn := fn) hr'' (q3.env.mono hx''.le) hrs (show resV rs S'.e h'' (kvh K h'' nx'') = true from hK)
    exact ⟨c, g3, ρ'', h'', nx'', hr'', q4.trans hx'', .inl ⟨v, c, rfl, g2, g1⟩⟩
  cases q5 with
  | nrm => exact runDs_ok hd hcall' S'.ds a'.defers _ S'.h S'.nx ρ' w' q3.ds (show runDs S'.ds dtab S'.call (rfR rs S'.e K) S'.h S'.nx = true from q1) q3.rel fin
  | rt => exact runDs_ok hd hcall' S'.ds a'.defers _ S'.h S'.nx ρ' w' q3.ds (show runDs S'.ds dtab S'.call (rfR rs S'.e K) S'.h S'.nx = true from q1) q3.rel fin
  | ex id => cases q1
  | pn v c hv =>
    have q1 : lcase S'.ds (Q v S'.h S'.nx) (rfD dtab rs S' K v) = true := q1
    show Leaves C.P fn a'.tmps (Ends ρ nx w K Q) a'.defers (.panicking [{ v := c, recovered := false }]) w'
    have hds := q3.ds
    generalize hD : a'.defers = defs at hds
    generalize hS : S'.ds = sds at hds q1
    cases hds with
    | nil => exact ⟨ρ', S'.h, S'.nx, q3.rel, q4, .inr ⟨v, c, rfl, hv, q1⟩⟩
    | cons ff l r cl cr g1 g2 g3 =>
      refine runD_ok hd hcall' (show runD dtab S'.call v (runDs _ dtab S'.call (rfR rs S'.e K)) (.fn ff l r) S'.h S'.nx = true from q1) rfl g1 g2 q3.rel (.pan v c hv) ?_
      intro ρ'' h'' nx'' w'' hr'' hx'' hK
      exact runDs_ok hd hcall' _ _ _ h'' nx'' ρ'' w'' (g3.mono hx''.le) hK hr'' (fun ρ3 h3 nx3 w3 hr3 hx3 hK3 => fin ρ3 h3 nx3 w3 hr3 (hx''.trans hx3) hK3)

theorem fun_ok {C : Cx} (hfol : C.P.follows .mixedOrders = true) (hix : IxOk C.P C.ix) {dtab : Tab} (hd : ∀ g A, tget dtab g = some A → DefOk C.P g A) {f : FK} {fn : Func} {A : AF} (hf : C.P.funcs[f.val]? = some fn) (hc : C.fun? fn = some A) : AfOk C.P dtab f A := by
  unfold Cx.fun? at hc
  obtain ⟨c, hb, hc⟩ := Option.bind_eq_some_iff.1 hc
  obtain ⟨co, hco, hc⟩ := Option.bind_eq_some_iff.1 hc
  obtain ⟨ps, hps, hc⟩ := Option.bind_eq_some_iff.1 hc
  obtain ⟨rs, hrs, hc⟩ := Option.bind_eq_some_iff.1 hc
  split at hc
  · rename_i hcond
    cases hc
    obtain ⟨c1, c2, c3⟩ := hcond
    exact fun_ok_co hd hf hb (code_ok hfol hix c co hco) hps hrs c1 c2 c3
  · cases hc
end Go.Ev
set_option linter.constructorNameAsVariable false
namespace Go.Ev
open Go
variable {w : World} {ρ : Ren} {h : Heap} {nx : BK}

/-! ### calls whose results are known -/
/-- values that stand for the same wherever blocks lie -/
def AV.flat : AV → Bool
  | .b _ | .i _ _ | .s _ => true
  | .k .pn | .k .sln | .k .mn | .k .fnn | .k .ifn => true
  | _ => false
theorem V.flat {ρ ρ' : Ren} {v : AV} {c : Value} (hv : V ρ v c) (hf : v.flat = true) : V ρ' v c := by
  cases hv <;> first | (simp [AV.flat] at hf; done) | (constructor; done)
theorem Vs.flat {ρ ρ' : Ren} {l : List AV} {cs : List Value} (hv : Vs ρ l cs) (hf : ∀ x ∈ l, x.flat = true) : Vs ρ' l cs :=
  ⟨hv.1, fun i x y hx hy => (hv.2 i x y hx hy).flat (hf x (List.mem_of_getElem? hx))⟩
/-- no elder block is turned -/
structure Keeps (w w' : World) : Prop where
  os : w'.os = w.os
  tape : w'.tape = w.tape
  output : w'.output = w.output
  size : w.heap.size ≤ w'.heap.size
  old : ∀ k, k < w.heap.size → w'.heap[k]? = w.heap[k]?
theorem Rel.keeps {w' : World} (hr : Rel ρ h nx w) (hk : Keeps w w') : Rel ρ h nx w' :=
  ⟨fun b L hb => (hr.ob b L hb).of_block (Ren.le_refl _) (hk.old _ (hr.lt b L hb)), fun b L hb => Nat.lt_of_lt_of_le (hr.lt b L hb) hk.size, hr.fresh, hr.inj, fun b L hb hn i hi => (hr.room b L hb hn i hi).of_block (hk.old _ (hr.lt b L hb))⟩
theorem Ext.keeps {w' : World} (hk : Keeps w w') : Ext ρ nx w ρ nx w' := ⟨Ren.le_refl _, Nat.le_refl _, hk.os, hk.tape, hk.output, hk.size, fun k hlt _ => hk.old k hlt, fun _ _ hb => .inl hb⟩
def ren0 : Ren := fun _ => none
theorem Rel.zero (nx : BK) (w : World) : Rel ren0 heap0 nx w := ⟨(fun _ _ hb => nomatch hb), (fun _ _ hb => nomatch hb), (fun _ _ hb => nomatch hb), (fun _ _ _ _ hb => nomatch hb), (fun _ _ hb => nomatch hb)⟩
/-- what is known of a call -/
def Known (P : Program) (f : FK) (l : List AV) (v : AV) : Prop := ∀ w cs, Vs ren0 l cs → Calls P f.val cs.toArray w fun en w' => ∃ c, en = .returned c ∧ V ren0 v c ∧ Keeps w w'
def b0 : BK := .z
theorem known_of {P : Program} {call : CT} (hc : CallOk P call) {f : FK} {l : List AV} {v : AV} (hf : v.flat = true) (hev : call f l heap0 b0 (fun u _ _ => same u v) (fun _ _ _ => false) = true) : Known P f l v := by
  intro w cs hv
  obtain ⟨_, h2⟩ := hc f l heap0 b0 _ _ hev
  refine (h2 ren0 w cs (Rel.zero _ _) hv).mono ?_
  rintro en w' ⟨ρ', h', nx', _, hx, ⟨u, c, rfl, hu, he⟩ | ⟨u, c, _, _, he⟩⟩
  · rw [same_eq he] at hu
    exact ⟨c, rfl, hu.flat hf, hx.os, hx.tape, hx.output, hx.size, fun k hk => hx.kept k hk fun _ _ hb => nomatch hb⟩
  · cases he
theorem mlk_inv : ∀ {t : List (List AV × AV)} {l : List AV} {K : AV → Bool}, mlk t l K = true → ∃ v, (l, v) ∈ t ∧ K v = true := by
  intro t
  induction t with
  | nil => intro l K hh; cases hh
  | cons x t ih =>
    intro l K hh
    obtain ⟨a, v⟩ := x
    have hh : ifb (sames a l) (K v) (mlk t l K) = true := hh
    rw [ifb_eq] at hh
    cases hs : sames a l with
    | true =>
      rw [hs] at hh
      rw [sames_eq hs]
      exact ⟨v, List.mem_cons_self .., hh⟩
    | false =>
      rw [hs] at hh
      obtain ⟨v', h1, h2⟩ := ih hh
      exact ⟨v', List.mem_cons_of_mem _ h1, h2⟩
theorem vals_inv : ∀ {vs : List VK} {e : Env} {K : List AV → Bool}, vals vs e K = true → K (vs.map (vat e)) = true := by
  intro vs
  induction vs with
  | nil => exact fun hh => hh
  | cons k vs ih =>
    intro e K hh
    obtain ⟨_, h1⟩ := frcV_inv (show frcV (vat e k) (vl1 (vals vs) e K) = true from hh)
    exact ih (e := e) (K := kcons K (vat e k)) h1
def memAF (ps : List VK) (t : List (List AV × AV)) (k : VK) : AF := ⟨ps, .mem ps t k, [.t k]⟩
/-- distinct slots -/
def distinct : List VK → Bool
  | [] => true
  | k :: l => l.all (fun m => decide (k ≠ m)) && distinct l
theorem distinct_at : ∀ {l : List VK}, distinct l = true → ∀ (i j : Nat) k, l[i]? = some k → l[j]? = some k → i = j := by
  intro l
  induction l with
  | nil => intro _ i j k hi; simp at hi
  | cons x l ih =>
    intro hd i j k hi hj
    unfold distinct at hd
    simp only [Bool.and_eq_true, List.all_eq_true, decide_eq_true_eq] at hd
    cases i with
    | zero => cases j with
      | zero => rfl
      | succ j =>
        simp at hi hj
        subst hi
        exact absurd rfl (hd.1 x (List.mem_of_getElem? hj))
    | succ i => cases j with
      | zero =>
        simp at hi hj
        subst hj
        exact absurd rfl (hd.1 x (List.mem_of_getElem? hi))
      | succ j =>
        simp at hi hj
        rw [ih hd.2 i j k hi hj]
theorem mem_ok {P : Program} {dtab : Tab} {f : FK} {ps : List VK} {t : List (List AV × AV)} {k : VK} (he : Enters P f.val) (hd : distinct ps = true) (hk : ∀ l v, (l, v) ∈ t → (∀ x ∈ l, x.flat = true) ∧ v.flat = true ∧ Known P f l v) : AfOk P dtab f (memAF ps t k) := by
  refine ⟨he, ?_⟩
  intro call args h nx K Q _ hh ρ w cs hr hv
  obtain ⟨hlen, e1, h1, h2⟩ := setPar_inv _ _ _ _ (show setPar ps args env0 (rf1 dtab (.mem ps t k) [.t k] call h nx K Q) = true from hh)
  have h1 : vals ps e1 (cm0 t k (.mk call e1 [] h nx) (rf2 dtab [.t k] K Q)) = true := h1
  have h3 := vals_inv h1
  have hargs : ps.map (vat e1) = args := by
    apply List.ext_getElem?
    intro i
    rw [List.getElem?_map]
    cases hp : ps[i]? with
    | none =>
      have : ps.length ≤ i := by rw [List.getElem?_eq_none_iff] at hp; exact hp
      rw [List.getElem?_eq_none (by omega)]
      rfl
    | some q =>
      rcases h2 q with ⟨j, v, q1, q2, q3⟩ | ⟨q1, _⟩
      · have := distinct_at hd i j q hp q1
        subst this
        rw [q2, ← q3]
        rfl
      · exact absurd hp (q1 i)
  rw [hargs] at h3
  obtain ⟨v, hm, h4⟩ := mlk_inv (show mlk t args (cm1 k (.mk call e1 [] h nx) (rf2 dtab [.t k] K Q)) = true from h3)
  have h4 : vput e1 k v (kee .nrm (.mk call e1 [] h nx) (rf2 dtab [.t k] K Q)) = true := h4
  obtain ⟨e2, g1, g2⟩ := vput_ex e1 k v
  rw [g1] at h4
  have h4 : resV [.t k] e2 h (kvh K h nx) = true := h4
  have h4 : frcV (vat e2 k) (rs1 (fun _ _ K => K []) e2 h (rv0 (kvh K h nx))) = true := h4
  obtain ⟨_, h5⟩ := frcV_inv h4
  have h5 : K (vat e2 k) h nx = true := h5
  rw [g2, if_pos rfl] at h5
  obtain ⟨f1, f2, f3⟩ := hk args v hm
  refine (f3 w cs (hv.flat f1)).mono ?_
  rintro en w' ⟨c, rfl, hc, hkp⟩
  exact ⟨ρ, h, nx, hr.keeps hkp, Ext.keeps hkp, .inl ⟨v, c, rfl, hc.flat f2, h5⟩⟩

/-! ### tables -/
def Leaf (P : Program) (dtab : Tab) (f : FK) (o : Option AF) : Prop := ∀ A, o = some A → AfOk P dtab f A
def DLeaf (P : Program) (f : FK) (o : Option AF) : Prop := ∀ A, o = some A → DefOk P f A
theorem n8a {L : FK → Option AF → Prop} {c0 c1 c2 c3 c4 c5 c6 c7 : N (N (N (Option AF)))} (h0 : ∀ b c d, L ⟨.d0, b, c, d⟩ (N.at d (N.at c (N.at b c0)))) (h1 : ∀ b c d, L ⟨.d1, b, c, d⟩ (N.at d (N.at c (N.at b c1)))) (h2 : ∀ b c d, L ⟨.d2, b, c, d⟩ (N.at d (N.at c (N.at b c2)))) (h3 : ∀ b c d, L ⟨.d3, b, c, d⟩ (N.at d (N.at c (N.at b c3)))) (h4 : ∀ b c d, L ⟨.d4, b, c, d⟩ (N.at d (N.at c (N.at b c4)))) (h5 : ∀ b c d, L ⟨.d5, b, c, d⟩ (N.at d (N.at c (N.at b c5)))) (h6 : ∀ b c d, L ⟨.d6, b, c, d⟩ (N.at d (N.at c (N.at b c6)))) (h7 : ∀ b c d, L ⟨.d7, b, c, d⟩ (N.at d (N.at c (N.at b c7)))) : ∀ x b c d, L ⟨x, b, c, d⟩ (N.at d (N.at c (N.at b (N.at x (N.mk c0 c1 c2 c3 c4 c5 c6 c7))))) := by
  intro x
  cases x
  · exact h0
  · exact h1
  · exact h2
  · exact h3
  · exact h4
  · exact h5
  · exact h6
  · exact h7
theorem n8b {L : FK → Option AF → Prop} {a : D} {c0 c1 c2 c3 c4 c5 c6 c7 : N (N (Option AF))} (h0 : ∀ c d, L ⟨a, .d0, c, d⟩ (N.at d (N.at c c0))) (h1 : ∀ c d, L ⟨a, .d1, c, d⟩ (N.at d (N.at c c1))) (h2 : ∀ c d, L ⟨a, .d2, c, d⟩ (N.at d (N.at c c2))) (h3 : ∀ c d, L ⟨a, .d3, c, d⟩ (N.at d (N.at c c3))) (h4 : ∀ c d, L ⟨a, .d4, c, d⟩ (N.at d (N.at c c4))) (h5 : ∀ c d, L ⟨a, .d5, c, d⟩ (N.at d (N.at c c5))) (h6 : ∀ c d, L ⟨a, .d6, c, d⟩ (N.at d (N.at c c6))) (h7 : ∀ c d, L ⟨a, .d7, c, d⟩ (N.at d (N.at c c7))) : ∀ x c d, L ⟨a, x, c, d⟩ (N.at d (N.at c (N.at x (N.mk c0 c1 c2 c3 c4 c5 c6 c7)))) := by
  intro x
  cases x
  · exact h0
  · exact h1
  · exact h2
  · exact h3
  · exact h4
  · exact h5
  · exact h6
  · exact h7
theorem n8c {L : FK → Option AF → Prop} {a b : D} {c0 c1 c2 c3 c4 c5 c6 c7 : N (Option AF)} (h0 : ∀ d, L ⟨a, b, .d0, d⟩ (N.at d c0)) (h1 : ∀ d, L ⟨a, b, .d1, d⟩ (N.at d c1)) (h2 : ∀ d, L ⟨a, b, .d2, d⟩ (N.at d c2)) (h3 : ∀ d, L ⟨a, b, .d3, d⟩ (N.at d c3)) (h4 : ∀ d, L ⟨a, b, .d4, d⟩ (N.at d c4)) (h5 : ∀ d, L ⟨a, b, .d5, d⟩ (N.at d c5)) (h6 : ∀ d, L ⟨a, b, .d6, d⟩ (N.at d c6)) (h7 : ∀ d, L ⟨a, b, .d7, d⟩ (N.at d c7)) : ∀ x d, L ⟨a, b, x, d⟩ (N.at d (N.at x (N.mk c0 c1 c2 c3 c4 c5 c6 c7))) := by
  intro x
  cases x
  · exact h0
  · exact h1
  · exact h2
  · exact h3
  · exact h4
  · exact h5
  · exact h6
  · exact h7
theorem n8d {L : FK → Option AF → Prop} {a b c : D} {c0 c1 c2 c3 c4 c5 c6 c7 : Option AF} (h0 : L ⟨a, b, c, .d0⟩ c0) (h1 : L ⟨a, b, c, .d1⟩ c1) (h2 : L ⟨a, b, c, .d2⟩ c2) (h3 : L ⟨a, b, c, .d3⟩ c3) (h4 : L ⟨a, b, c, .d4⟩ c4) (h5 : L ⟨a, b, c, .d5⟩ c5) (h6 : L ⟨a, b, c, .d6⟩ c6) (h7 : L ⟨a, b, c, .d7⟩ c7) : ∀ x, L ⟨a, b, c, x⟩ (N.at x (N.mk c0 c1 c2 c3 c4 c5 c6 c7)) := by
  intro x
  cases x
  · exact h0
  · exact h1
  · exact h2
  · exact h3
  · exact h4
  · exact h5
  · exact h6
  · exact h7
def z1 : N (Option AF) := N.all .none
def z2 : N (N (Option AF)) := N.all z1
def z3 : N (N (N (Option AF))) := N.all z2
theorem z1_at (d : D) : N.at d z1 = none := N.at_all _ _
theorem z2_at (c d : D) : N.at d (N.at c z2) = none := by
  have : N.at c z2 = z1 := N.at_all _ _
  rw [this, z1_at]
theorem z3_at (b c d : D) : N.at d (N.at c (N.at b z3)) = none := by
  have : N.at b z3 = z2 := N.at_all _ _
  rw [this, z2_at]
theorem leaf_none {P : Program} {dtab : Tab} {f : FK} : Leaf P dtab f none := fun _ h => nomatch h
theorem leaf_some {P : Program} {dtab : Tab} {f : FK} {A : AF} (h : AfOk P dtab f A) : Leaf P dtab f (some A) := fun _ e => by cases e; exact h
theorem leaf1 {P : Program} {dtab : Tab} {a b c : D} : ∀ d, Leaf P dtab ⟨a, b, c, d⟩ (N.at d z1) := fun d => by rw [z1_at]; exact leaf_none
theorem leaf2 {P : Program} {dtab : Tab} {a b : D} : ∀ c d, Leaf P dtab ⟨a, b, c, d⟩ (N.at d (N.at c z2)) := fun c d => by rw [z2_at]; exact leaf_none
theorem leaf3 {P : Program} {dtab : Tab} {a : D} : ∀ b c d, Leaf P dtab ⟨a, b, c, d⟩ (N.at d (N.at c (N.at b z3))) := fun b c d => by rw [z3_at]; exact leaf_none
theorem dleaf_none {P : Program} {f : FK} : DLeaf P f none := fun _ h => nomatch h
theorem dleaf_some {P : Program} {f : FK} {A : AF} (h : DefOk P f A) : DLeaf P f (some A) := fun _ e => by cases e; exact h
theorem dleaf1 {P : Program} {a b c : D} : ∀ d, DLeaf P ⟨a, b, c, d⟩ (N.at d z1) := fun d => by rw [z1_at]; exact dleaf_none
theorem dleaf2 {P : Program} {a b : D} : ∀ c d, DLeaf P ⟨a, b, c, d⟩ (N.at d (N.at c z2)) := fun c d => by rw [z2_at]; exact dleaf_none
theorem dleaf3 {P : Program} {a : D} : ∀ b c d, DLeaf P ⟨a, b, c, d⟩ (N.at d (N.at c (N.at b z3))) := fun b c d => by rw [z3_at]; exact dleaf_none
end Go.Ev
set_option linter.constructorNameAsVariable false
namespace Go.Ev
open Go
variable {w : World} {ρ : Ren} {h : Heap} {nx : BK}

/-! ### calls whose results are known where some blocks are known -/
/-- what stands for a value under more keys and for some value under fewer, stands for the value under fewer -/
theorem V.down {ρ ρ' : Ren} (hle : ρ.le ρ') {v : AV} {c : Value} (hv : V ρ' v c) : ∀ {c0 : Value}, V ρ v c0 → V ρ v c := by
  have same : ∀ {k : BK} {L L0 : Loc}, ρ' k = some L → ρ k = some L0 → ρ k = some L := fun h1 h2 => by
    have := hle _ _ h2
    rw [h1] at this
    rw [h2, Option.some.inj this]
  have rows : ∀ {l : List AV} {cs c0 : Array Value}, l.length = c0.size → (∀ (i : Nat) x y, l[i]? = some x → c0[i]? = some y → V ρ x y) → (∀ (i : Nat) x y, l[i]? = some x → cs[i]? = some y → ∀ {y0 : Value}, V ρ x y0 → V ρ x y) →
      ∀ (i : Nat) x y, l[i]? = some x → cs[i]? = some y → V ρ x y := by
    intro l cs c0 h1 h2 h3 i x y hx hy
    have hi : i < c0.size := by rw [← h1]; exact (List.getElem?_eq_some_iff.1 hx).1
    exact h3 i x y hx hy (h2 i x c0[i] hx (by simp [hi]))
  induction hv with
  | u => exact fun _ => .u
  | x c => exact fun _ => .x c
  | pn => exact fun _ => .pn
  | sln => exact fun _ => .sln
  | mn => exact fun _ => .mn
  | fnn => exact fun _ => .fnn
  | ifn => exact fun _ => .ifn
  | b t => exact fun _ => .b t
  | i k n => exact fun _ => .i k n
  | s s => exact fun _ => .s s
  | p k o L h => intro c0 h0; cases h0 with | p _ _ L0 h0 => exact .p k o L (same h h0)
  | slk k o n c L a h hn ha => intro c0 h0; cases h0 with | slk _ _ _ _ L0 a0 h0 hn0 ha0 => exact .slk k o n c L a (same h h0) hn ha
  | slu k o n c sz L a h hn ha hs hm hz => intro c0 h0; cases h0 with | slu _ _ _ _ _ L0 a0 h0 hn0 ha0 hs0 hm0 hz0 => exact .slu k o n c sz L a (same h h0) hn ha hs hm hz
  | m k L h => intro c0 h0; cases h0 with | m _ L0 h0 => exact .m k L (same h h0)
  | fn f l r cl cr h1 _ h3 _ ih2 ih4 =>
    intro c0 h0
    cases h0 with
    | fn _ _ _ cl0 cr0 g1 g2 g3 g4 => exact .fn f l r cl cr h1 (rows g1 g2 ih2) h3 (rows g3 g4 ih4)
  | iface t v c _ ih => intro c0 h0; cases h0 with | iface _ _ c1 g => exact .iface t v c (ih g)
  | agg l c h1 _ h3 ih => intro c0 h0; cases h0 with | agg _ c1 g1 g2 g3 => exact .agg l c h1 (rows g1 g2 ih) h3
  | tup l c h1 _ ih => intro c0 h0; cases h0 with | tup _ c1 g1 g2 => exact .tup l c h1 (rows g1 g2 ih)
  | q k t l n hn h1 h0 _ ih =>
    intro c0 g
    cases g with
    | q _ _ _ n0 gn g1 g0 g => exact .q k t l n hn h1 h0 (fun i x v hx hv => ih i x v hx hv (g i x v hx hv))
/-- keys, restricted -/
def Ren.on (ρ : Ren) (S : List BK) : Ren := fun b => if b ∈ S then ρ b else none
theorem Ren.on_le (ρ : Ren) (S : List BK) : (ρ.on S).le ρ := fun b L hb => by
  unfold Ren.on at hb
  split at hb
  · exact hb
  · cases hb
theorem Ren.on_some {ρ : Ren} {S : List BK} {b : BK} {L : Loc} (hb : (ρ.on S) b = some L) : b ∈ S ∧ ρ b = some L := by
  unfold Ren.on at hb
  split at hb
  · rename_i h1; exact ⟨h1, hb⟩
  · cases hb
theorem Ren.on_in {ρ : Ren} {S : List BK} {b : BK} (hb : b ∈ S) : (ρ.on S) b = ρ b := if_pos hb
/-- a value all of whose keys are among some -/
def AV.clo (S : List BK) : AV → Bool
  | .p kk _ => decide (kk ∈ S)
  | .sl kk _ _ _ => decide (kk ∈ S)
  | .m kk => decide (kk ∈ S)
  | vv => vv.flat
theorem V.clo {ρ : Ren} {S : List BK} {v : AV} {c : Value} (hv : V ρ v c) (hc : v.clo S = true) : V (ρ.on S) v c := by
  cases hv with
  | p k o L h => exact .p k o L (by rw [Ren.on_in (by simpa [AV.clo] using hc)]; exact h)
  | slk k o n c L a h hn ha => exact .slk k o n c L a (by rw [Ren.on_in (by simpa [AV.clo] using hc)]; exact h) hn ha
  | slu k o n c sz L a h hn ha hs hm h0 => exact .slu k o n c sz L a (by rw [Ren.on_in (by simpa [AV.clo] using hc)]; exact h) hn ha hs hm h0
  | m k L h => exact .m k L (by rw [Ren.on_in (by simpa [AV.clo] using hc)]; exact h)
  | u => exact .u
  | x c => exact .x c
  | pn => exact .pn
  | sln => exact .sln
  | mn => exact .mn
  | fnn => exact .fnn
  | ifn => exact .ifn
  | b t => exact .b t
  | i k n => exact .i k n
  | s s => exact .s s
  | _ => simp [AV.clo, AV.flat] at hc
theorem Vs.clo {ρ : Ren} {S : List BK} {l : List AV} {cs : List Value} (hv : Vs ρ l cs) (hc : ∀ x ∈ l, x.clo S = true) : Vs (ρ.on S) l cs :=
  ⟨hv.1, fun i x y hx hy => (hv.2 i x y hx hy).clo (hc x (List.mem_of_getElem? hx))⟩
/-- results that stand for the same wherever blocks lie -/
def AV.flat2 : AV → Bool
  | .tup ll => ll.all AV.flat
  | vv => vv.flat
theorem V.flat2 {ρ ρ' : Ren} {v : AV} {c : Value} (hv : V ρ v c) (hf : v.flat2 = true) : V ρ' v c := by
  cases hv with
  | tup l c h1 h2 => exact .tup l c h1 (fun i x y hx hy => (h2 i x y hx hy).flat (by simp only [AV.flat2, List.all_eq_true] at hf; exact hf x (List.mem_of_getElem? hx)))
  | u => exact .u
  | x c => exact .x c
  | pn => exact .pn
  | sln => exact .sln
  | mn => exact .mn
  | fnn => exact .fnn
  | ifn => exact .ifn
  | b t => exact .b t
  | i k n => exact .i k n
  | s s => exact .s s
  | _ => simp [AV.flat2, AV.flat] at hf
abbrev Snap := List (BK × Ob)
def skeys (s : Snap) : List BK := s.map (·.1)
/-- rows of cells whose keys are among the keys -/
noncomputable def Snap.ok (s : Snap) (mx : BK) : Bool := decide (skeys s).Nodup && s.all fun x => decide (x.1.val < mx.val) && match x.2 with
  | .cells _ l => l.all (·.clo (skeys s))
  | _ => false
/-- the heap of the blocks -/
noncomputable def snH : Snap → Heap → (Heap → Bool) → Bool := List.rec (motive := fun _ => Heap → (Heap → Bool) → Bool) (fun h K => K h) (fun x _ ih h K => hput h x.1 x.2 fun h' => ih h' K)
theorem snH_inv : ∀ (s : Snap) (h : Heap) (K : Heap → Bool), (skeys s).Nodup → snH s h K = true → ∃ h', K h' = true ∧ (∀ x ∈ s, hat h' x.1 = x.2) ∧ ∀ k, k ∉ (skeys s) → hat h' k = hat h k := by
  intro s
  induction s with
  | nil => exact fun h K _ hh => ⟨h, hh, fun x hx => (by cases hx), fun _ _ => rfl⟩
  | cons x s ih =>
    intro h K hnd hh
    have hnd : x.1 ∉ (skeys s) ∧ (skeys s).Nodup := by simpa [skeys] using hnd
    have hh : hput h x.1 x.2 (fun h' => snH s h' K) = true := hh
    obtain ⟨h1, e1, e2⟩ := hput_ex h x.1 x.2
    rw [e1] at hh
    obtain ⟨h', g1, g2, g3⟩ := ih h1 K hnd.2 hh
    refine ⟨h', g1, fun y hy => ?_, fun k hk => ?_⟩
    · rcases List.mem_cons.1 hy with rfl | hy
      · rw [g3 _ hnd.1, e2, if_pos rfl]
      · exact g2 y hy
    · have hk : ¬(k = x.1) ∧ k ∉ (skeys s) := by simpa [skeys] using hk
      rw [g3 k hk.2, e2, if_neg hk.1]
theorem snap_inv : ∀ (s : Snap) (h : Heap) (K : Bool), snap s h K = true → K = true ∧ ∀ x ∈ s, hat h x.1 = x.2 := by
  intro s
  induction s with
  | nil => exact fun h K hh => ⟨hh, fun x hx => (by cases hx)⟩
  | cons x s ih =>
    intro h K hh
    obtain ⟨k, ob⟩ := x
    obtain ⟨h1, h2⟩ := ifb_true (show ifb (sameOb ob (hat h k)) (snap s h K) false = true from hh)
    obtain ⟨g1, g2⟩ := ih h K h2
    refine ⟨g1, fun y hy => ?_⟩
    rcases List.mem_cons.1 hy with rfl | hy
    · exact (sameOb_eq h1).symm
    · exact g2 y hy
/-- what is known of a call where some blocks are known -/
def KnownS (P : Program) (f : FK) (s : Snap) (l : List AV) (v : AV) : Prop := ∀ ρ h nx w cs, Rel ρ h nx w → (∀ x ∈ s, hat h x.1 = x.2) → Vs ρ l cs →
  Calls P f.val cs.toArray w fun en w' => ∃ c, en = .returned c ∧ V ρ v c ∧ Rel ρ h nx w' ∧ Ext ρ nx w ρ nx w'
theorem ObR.clo {S : List BK} {L : Loc} {g : Tg} {l : List AV} (ho : ObR ρ w L (.cells g l)) (hc : ∀ x ∈ l, x.clo S = true) : ObR (ρ.on S) w L (.cells g l) :=
  ⟨ho.1, fun i x hx => by
    obtain ⟨h1, h2, c, h3, h4⟩ := ho.2.1 i x hx
    exact ⟨h1, h2, c, h3, h4.clo (hc x (List.mem_of_getElem? hx))⟩, ho.2.2⟩
theorem ObR.down {ρ' : Ren} {w' : World} {L : Loc} {g : Tg} {l : List AV} (hle : ρ.le ρ') (ho : ObR ρ' w' L (.cells g l)) (h0 : ObR ρ w L (.cells g l)) : ObR ρ w' L (.cells g l) :=
  ⟨ho.1, fun i x hx => by
    obtain ⟨h1, h2, c, h3, h4⟩ := ho.2.1 i x hx
    obtain ⟨_, _, c0, _, g4⟩ := h0.2.1 i x hx
    exact ⟨h1, h2, c, h3, h4.down hle g4⟩, ho.2.2⟩
theorem ObR.le {ρ' : Ren} {L : Loc} {g : Tg} {l : List AV} (hle : ρ.le ρ') (ho : ObR ρ w L (.cells g l)) : ObR ρ' w L (.cells g l) :=
  ⟨ho.1, fun i x hx => by
    obtain ⟨h1, h2, c, h3, h4⟩ := ho.2.1 i x hx
    exact ⟨h1, h2, c, h3, h4.mono hle⟩, ho.2.2⟩
theorem knownS_of {P : Program} {call : CT} (hc : CallOk P call) {f : FK} {s : Snap} {mx : BK} {l : List AV} {v : AV} (hs : s.ok mx = true) (hl : ∀ x ∈ l, x.clo (skeys s) = true) (hf : v.flat2 = true)
    (hev : snH s heap0 (fun h0 => call f l h0 mx (fun u h' _ => ifb (same u v) (snap s h' true) false) (fun _ _ _ => false)) = true) : KnownS P f s l v := by
  unfold Snap.ok at hs
  simp only [Bool.and_eq_true, decide_eq_true_eq, List.all_eq_true] at hs
  obtain ⟨hnd, hok⟩ := hs
  obtain ⟨H, hev, hH, hN⟩ := snH_inv s heap0 _ hnd hev
  have cellsOf : ∀ x ∈ s, ∃ g cl, x.2 = .cells g cl ∧ ∀ y ∈ cl, y.clo (skeys s) = true := by
    intro x hx
    have := (hok x hx).2
    split at this
    · rename_i g cl e; exact ⟨g, cl, e, by simpa using this⟩
    · cases this
  have entry : ∀ b ∈ (skeys s), ∃ x ∈ s, x.1 = b := fun b hb => by
    obtain ⟨x, h1, h2⟩ := List.mem_map.1 hb
    exact ⟨x, h1, h2⟩
  obtain ⟨_, h2⟩ := hc f l H mx _ _ hev
  intro ρ h nx w cs hr hsn hv
  have hle := ρ.on_le (skeys s)
  have hrel : Rel (ρ.on (skeys s)) H mx w := by
    refine ⟨fun b L hb => ?_, fun b L hb => hr.lt b L (Ren.on_some hb).2, fun b L hb => ?_, fun b b' L L' h1 h2 _ _ he => ?_, fun b L hb _ i hi => ?_⟩
    · obtain ⟨hm, hb⟩ := Ren.on_some hb
      obtain ⟨x, hx, rfl⟩ := entry b hm
      obtain ⟨_, cl, e, hcl⟩ := cellsOf x hx
      have := hr.ob _ L hb
      rw [hsn x hx, e] at this
      rw [hH x hx, e]
      exact this.clo hcl
    · obtain ⟨hm, hb⟩ := Ren.on_some hb
      obtain ⟨x, hx, rfl⟩ := entry b hm
      exact (hok x hx).1
    · obtain ⟨m1, g1⟩ := Ren.on_some h1
      obtain ⟨m2, g2⟩ := Ren.on_some h2
      obtain ⟨x, hx, rfl⟩ := entry b m1
      obtain ⟨y, hy, rfl⟩ := entry b' m2
      obtain ⟨_, cl, e, _⟩ := cellsOf x hx
      obtain ⟨_, cl', e', _⟩ := cellsOf y hy
      exact hr.inj _ _ L L' g1 g2 (by rw [hsn x hx, e]; simp) (by rw [hsn y hy, e']; simp) he
    · obtain ⟨hm, hb⟩ := Ren.on_some hb
      obtain ⟨x, hx, rfl⟩ := entry b hm
      obtain ⟨_, cl, e, _⟩ := cellsOf x hx
      exact hr.room _ L hb (by rw [hsn x hx, e]; simp) i hi
  refine (h2 (ρ.on (skeys s)) w cs hrel (hv.clo hl)).mono ?_
  rintro en w' ⟨ρ', h', nx', hr', hx, ⟨u, c, rfl, hu, he⟩ | ⟨u, c, _, _, he⟩⟩
  rotate_left
  · cases he
  obtain ⟨e1, e2⟩ := ifb_true he
  rw [same_eq e1] at hu
  obtain ⟨_, hsn'⟩ := snap_inv s h' true e2
  have kept : ∀ k, k < w.heap.size → (∀ b L, (ρ.on (skeys s)) b = some L → L.blk ≠ k) → w'.heap[k]? = w.heap[k]? := hx.kept
  have away : ∀ b L, ρ b = some L → b ∉ (skeys s) → hat h b ≠ .no → w'.heap[L.blk]? = w.heap[L.blk]? := by
    intro b L hb hm hn
    refine kept _ (hr.lt b L hb) fun b' L' hb' he => ?_
    obtain ⟨m2, g2⟩ := Ren.on_some hb'
    obtain ⟨y, hy, rfl⟩ := entry b' m2
    obtain ⟨_, cl, e, _⟩ := cellsOf y hy
    have := hr.inj _ b L' L g2 hb (by rw [hsn y hy, e]; simp) hn he
    exact hm (this ▸ m2)
  refine ⟨c, rfl, hu.flat2 hf, ⟨fun b L hb => ?_, fun b L hb => Nat.lt_of_lt_of_le (hr.lt b L hb) hx.size, hr.fresh, hr.inj, fun b L hb hn i hi => ?_⟩, Ren.le_refl _, Nat.le_refl _, hx.os, hx.tape, hx.output, hx.size, fun k hk hno => ?_, fun _ _ hb => .inl hb⟩
  · by_cases hm : b ∈ (skeys s)
    · have hbo : (ρ.on (skeys s)) b = some L := by rw [Ren.on_in hm]; exact hb
      obtain ⟨x, hx', rfl⟩ := entry b hm
      obtain ⟨_, cl, e, hcl⟩ := cellsOf x hx'
      have o1 := hr'.ob _ L (hx.le _ _ hbo)
      rw [hsn' x hx', e] at o1
      have o0 := hrel.ob _ L hbo
      rw [hH x hx', e] at o0
      rw [hsn x hx', e]
      exact (o1.down hx.le o0).le hle
    · by_cases hn : hat h b = .no
      · rw [hn]; trivial
      · exact (hr.ob b L hb).of_block (Ren.le_refl _) (away b L hb hm hn)
  · by_cases hm : b ∈ (skeys s)
    · have hbo : (ρ.on (skeys s)) b = some L := by rw [Ren.on_in hm]; exact hb
      obtain ⟨x, hx', rfl⟩ := entry b hm
      obtain ⟨_, cl, e, hcl⟩ := cellsOf x hx'
      exact hr'.room _ L (hx.le _ _ hbo) (by rw [hsn' x hx', e]; simp) i hi
    · exact (hr.room b L hb hn i hi).of_block (away b L hb hm hn)
  · exact kept k hk fun b L hb he => hno b L (Ren.on_some hb).2 he
def smemAF (ps : List VK) (s : Snap) (t : List (List AV × AV)) (k : VK) : AF := ⟨ps, .smem ps s t k, [.t k]⟩
theorem smem_ok {P : Program} {dtab : Tab} {f : FK} {ps : List VK} {s : Snap} {t : List (List AV × AV)} {k : VK} (he : Enters P f.val) (hd : distinct ps = true) (hk : ∀ l v, (l, v) ∈ t → KnownS P f s l v) : AfOk P dtab f (smemAF ps s t k) := by
  refine ⟨he, ?_⟩
  intro call args h nx K Q _ hh ρ w cs hr hv
  obtain ⟨hlen, e1, h1, h2⟩ := setPar_inv _ _ _ _ (show setPar ps args env0 (rf1 dtab (.smem ps s t k) [.t k] call h nx K Q) = true from hh)
  have h1 : snap s h (vals ps e1 (cm0 t k (.mk call e1 [] h nx) (rf2 dtab [.t k] K Q))) = true := h1
  obtain ⟨h1, hsn⟩ := snap_inv s h _ h1
  have h3 := vals_inv h1
  have hargs : ps.map (vat e1) = args := by
    apply List.ext_getElem?
    intro i
    rw [List.getElem?_map]
    cases hp : ps[i]? with
    | none =>
      have : ps.length ≤ i := by rw [List.getElem?_eq_none_iff] at hp; exact hp
      rw [List.getElem?_eq_none (by omega)]
      rfl
    | some q =>
      rcases h2 q with ⟨j, v, q1, q2, q3⟩ | ⟨q1, _⟩
      · have := distinct_at hd i j q hp q1
        subst this
        rw [q2, ← q3]
        rfl
      · exact absurd hp (q1 i)
  rw [hargs] at h3
  obtain ⟨v, hm, h4⟩ := mlk_inv (show mlk t args (cm1 k (.mk call e1 [] h nx) (rf2 dtab [.t k] K Q)) = true from h3)
  have h4 : vput e1 k v (kee .nrm (.mk call e1 [] h nx) (rf2 dtab [.t k] K Q)) = true := h4
  obtain ⟨e2, g1, g2⟩ := vput_ex e1 k v
  rw [g1] at h4
  have h4 : resV [.t k] e2 h (kvh K h nx) = true := h4
  have h4 : frcV (vat e2 k) (rs1 (fun _ _ K => K []) e2 h (rv0 (kvh K h nx))) = true := h4
  obtain ⟨_, h5⟩ := frcV_inv h4
  have h5 : K (vat e2 k) h nx = true := h5
  rw [g2, if_pos rfl] at h5
  refine (hk args v hm ρ h nx w cs hr hsn hv).mono ?_
  rintro en w' ⟨c, rfl, hc, hr', hx⟩
  exact ⟨ρ, h, nx, hr', hx, .inl ⟨v, c, rfl, hc, h5⟩⟩
end Go.Ev
namespace Go.Ev
/-- a library function by its number, and another by its number and 4096 -/
noncomputable def ix2 (a b g : Nat) : Bool := ifb (Nat.beq a g) true (Nat.beq b g)
theorem ix2_eq {a b g : Nat} (h : ix2 a b g = true) : g = a ∨ g = b := by
  unfold ix2 at h
  rw [ifb_eq] at h
  cases hq : Nat.beq a g with
  | true => exact .inl (Nat.eq_of_beq_eq_true hq).symm
  | false =>
    rw [hq] at h
    exact .inr (Nat.eq_of_beq_eq_true h).symm
end Go.Ev
set_option linter.constructorNameAsVariable false
namespace Go.Ev
open Go
/-! ## one more rest of an integer -/
theorem allN_inv {f : Nat → Bool} : ∀ {m : Nat}, allN f m = true → ∀ j, j < m → f j = true := by
  intro m
  induction m with
  | zero => intro _ j hj; omega
  | succ m ih =>
    intro hh j hj
    obtain ⟨h1, h2⟩ := ifb_true (show ifb (f m) (allN f m) false = true from hh)
    by_cases e : j = m
    · rw [e]; exact h1
    · exact ih h2 j (by omega)
theorem asQ_inv {v : AV} {K : List (Bool × Nat) → List AV → Bool} (hh : asQ v K = true) : ∃ t l, v = .q .u8 t l ∧ K t l = true := by
  cases v with
  | q k t l =>
    obtain ⟨h1, h2⟩ := ifb_true (show ifb (kq .u8 k) (K t l) false = true from hh)
    rw [kq_eq] at h1
    have h1 : IntKind.u8 = k := by simpa using h1
    subst h1
    exact ⟨t, l, rfl, h2⟩
  | _ => cases hh
theorem spl_co {C : Cx} {c : Code} {x : CoT} {k : VK} {m : Nat} {b : Co} (hx : CoOk C c x) : CoOk C c (cSpl k m b x) := by
  intro S KX hev hcall ρ0 nx0 w0 ρ w a N hxt
  obtain ⟨t, l, hv, h1⟩ := asQ_inv (show asQ (vat S.e k) (sp1' k m x S KX) = true from hev)
  obtain ⟨hm, h2⟩ := ifb_true (show ifb (Nat.blt 0 m) (allN (sp2 k m x S KX t l) m) false = true from h1)
  have hm : 0 < m := by rw [blt_eq] at hm; simpa using hm
  have hall : ∀ j, j < m → ∃ e', (∀ k', vat e' k' = if k' = k then .q .u8 (t ++ [(true, m)]) (l ++ [.i .u8 (Int.ofNat j)]) else vat S.e k') ∧ x (S.setE e') KX = true := by
    intro j hj
    have h3 := allN_inv h2 j hj
    have h3 : app t [(true, m)] (sp3' k x S KX l j) = true := h3
    rw [app_eq] at h3
    have h3 : app l [.i .u8 (Int.ofNat j)] (sp4 k x S KX (t ++ [(true, m)])) = true := h3
    rw [app_eq] at h3
    have h3 : vput S.e k (.q .u8 (t ++ [(true, m)]) (l ++ [.i .u8 (Int.ofNat j)])) (sp5 x S KX) = true := h3
    obtain ⟨e', g1, g2⟩ := vput_ex S.e k (.q .u8 (t ++ [(true, m)]) (l ++ [.i .u8 (Int.ofNat j)]))
    rw [g1] at h3
    have h3 : S.withE e' (sp6 x KX) = true := h3
    rw [St.withE_eq] at h3
    exact ⟨e', g2, h3⟩
  have go : ∀ j, j < m → (∀ t0, slotOf C.pers t0 = some k → V ρ (.q .u8 (t ++ [(true, m)]) (l ++ [.i .u8 (Int.ofNat j)])) (a.tmps.getD t0 undef)) → c.wp C.P (Post C S.call KX ρ0 nx0 w0) a w := by
    intro j hj hq
    obtain ⟨e', g1, g2⟩ := hall j hj
    have N' : Now C (S.setE e') a w ρ := by
      refine Now.setE N.rel (fun t0 k' hk' => ?_) N.ds N.size
      rw [g1]
      by_cases e : k' = k
      · subst e; rw [if_pos rfl]; exact hq t0 hk'
      · rw [if_neg e]; exact N.env t0 k' hk'
    have h := hx (S.setE e') KX g2 (by rw [St.setE_call]; exact hcall) ρ0 nx0 w0 ρ w a N' (by rw [St.setE_nx]; exact hxt)
    rw [St.setE_call] at h
    exact h
  by_cases hs : ∃ t0, slotOf C.pers t0 = some k
  · obtain ⟨t0, ht0⟩ := hs
    have hV := N.env t0 k ht0
    rw [hv] at hV
    generalize hc : a.tmps.getD t0 undef = cv at hV
    cases hV with
    | q _ _ _ n hn g1 g0 gq =>
      refine go (n % m) (Nat.mod_lt _ hm) (fun t1 ht1 => ?_)
      rw [slotOf_inj ht1 ht0, hc]
      refine .q .u8 _ _ n hn (by simp [g1]) (fun y hy => ?_) (fun i y v hy hvv => ?_)
      · rcases List.mem_append.1 hy with hy | hy
        · exact g0 y hy
        · simp only [List.mem_singleton] at hy; subst hy; exact hm
      · by_cases hi : i < t.length
        · rw [List.getElem?_append_left hi] at hy
          rw [List.getElem?_append_left (by omega)] at hvv
          exact gq i y v hy hvv
        · rw [List.getElem?_append_right (by omega)] at hy
          rw [List.getElem?_append_right (by omega)] at hvv
          have hi0 : i - t.length = 0 := by
            have := (List.getElem?_eq_some_iff.1 hy).1
            simp at this; omega
          rw [hi0] at hy
          have hi1 : i - l.length = 0 := by omega
          rw [hi1] at hvv
          simp only [List.getElem?_cons_zero, Option.some.injEq] at hy hvv
          subst hy
          subst hvv
          simp only [if_true]
          exact .i _ _
  · exact go 0 hm (fun t0 ht0 => absurd ⟨t0, ht0⟩ hs)
end Go.Ev
