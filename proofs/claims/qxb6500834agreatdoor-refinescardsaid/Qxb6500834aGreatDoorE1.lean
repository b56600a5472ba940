/-
  E1: a small program logic over the kit's 'Code.wp' and 'Calls'. FRAMES: what is known of the slots is a list of pairs ('Env'); a slot that isn't listed is unknown.
  MEMORY: 'St w0 M l w': w is w0 but for the blocks of M and new blocks; each item of l (a block's number, a property of its object) holds in w; the items' blocks differ.
  No project text.
-/
import Derived.WalkKit
import Derived.StillTail
import Derived.Deep.Quiet
import Derived.Deep.LoopGhost
namespace Go.E1
open Go.RowKit

/-! ### Frames -/

abbrev Env := List (Nat × Value)

def look : Env → Nat → Value
  | [], _ => undef
  | p :: l, t => bif Nat.beq p.1 t then p.2 else look l t

def knows : Env → Nat → Bool
  | [], _ => false
  | p :: l, t => bif Nat.beq p.1 t then true else knows l t

def ev (e : Env) : Operand → Value
  | .tmp t => look e t
  | .const v => v
  | .global g => .pointer (some ⟨g, 0, none⟩)
  | .func f => .func (.func f) #[] #[]

def okX (e : Env) : Operand → Bool
  | .tmp t => knows e t
  | _ => true

structure Fits (a : Act) (n : Nat) (ds : List Deferred) (e : Env) : Prop where
  size : a.tmps.size = n
  defers : a.defers = ds
  has : ∀ t, knows e t = true → a.tmps[t]? = some (look e t)

section
variable {a : Act} {n : Nat} {ds : List Deferred} {e : Env}

theorem Fits.put (h : Fits a n ds e) {d : Nat} (hd : Nat.blt d n = true) (v : Value) : Fits (a.put (some d) v) n ds ((d, v) :: e) := by
  have hd' : d < n := by rw [Nat.blt_eq] at hd; exact hd
  refine ⟨by simp [Act.put, h.size], h.defers, fun t ht => ?_⟩
  simp only [knows, look] at ht ⊢
  by_cases hdt : d = t
  · subst hdt
    simp [Act.put, h.size, hd']
  · have hb : Nat.beq d t = false := by
      cases hq : Nat.beq d t
      · rfl
      · exact absurd (Nat.eq_of_beq_eq_true hq) hdt
    rw [hb] at ht ⊢
    simp only [cond_false] at ht ⊢
    simp [Act.put, Array.getElem?_setIfInBounds_ne hdt, h.has t ht]

theorem Fits.getD (h : Fits a n ds e) {t : Nat} (ht : knows e t = true) : a.tmps.getD t undef = look e t := by
  rw [Array.getD_eq_getD_getElem?, h.has t ht]; rfl

theorem Fits.eval (h : Fits a n ds e) {x : Operand} (hx : okX e x = true) : a.eval x = ev e x := by
  cases x with
  | tmp t => exact h.getD hx
  | const v => rfl
  | global g => rfl
  | func f => rfl

def opsOf (op : Op) : List Operand :=
  match op with
  | .select _ _ => []
  | op => op.operands.toList

def noSel : Op → Bool
  | .select _ _ => false
  | _ => true

def cov (e : Env) (op : Op) : Bool := noSel op && op.operands.toList.all (okX e)

theorem Fits.exec (h : Fits a n ds e) {o : Oper} (hc : cov e o.op = true) : execOp a.eval o = execOp (ev e) o := by
  simp only [cov, Bool.and_eq_true] at hc
  refine execOp_congr o (fun cs b hs => ?_) fun x hx => h.eval ?_
  · rw [hs] at hc; simp [noSel] at hc
  · exact List.all_eq_true.1 hc.2 x (by simpa using hx)

/-- Of the slots that e lists no more than e' lists. -/
def Sub (e e' : Env) : Prop := ∀ t, knows e t = true → knows e' t = true ∧ look e' t = look e t

theorem Fits.mono {e' : Env} (h : Fits a n ds e') (hs : Sub e e') : Fits a n ds e :=
  ⟨h.size, h.defers, fun t ht => by rw [h.has t (hs t ht).1, (hs t ht).2]⟩

theorem sub_nil (e' : Env) : Sub [] e' := fun t ht => by simp [knows] at ht

theorem sub_cons {e' : Env} {i : Nat} {v : Value} (hk : knows e' i = true) (hv : look e' i = v) (hs : Sub e e') : Sub ((i, v) :: e) e' := by
  intro t ht
  simp only [knows, look] at ht ⊢
  cases hb : Nat.beq i t
  · rw [hb] at ht; simp only [cond_false] at ht ⊢; exact hs t ht
  · have := Nat.eq_of_beq_eq_true hb
    subst this
    simp only [cond_true]
    exact ⟨hk, hv⟩
end

/-! ### Lists of operations -/

/-- A call that returns. -/
def Ret (φ : Value → World → Prop) : Ending → World → Prop := fun e w' => ∃ v, e = .returned v ∧ φ v w'

def WL (P : Program) (ops : Array Oper) (Q : Exit → Act → World → Prop) (n : Nat) (ds : List Deferred) (rest : List Oper) (e : Env) (w : World) : Prop :=
  ∀ a, Fits a n ds e → wpList P ops Q rest a w

def WC (P : Program) (c : Code) (Q : Exit → Act → World → Prop) (n : Nat) (ds : List Deferred) (e : Env) (w : World) : Prop :=
  ∀ a, Fits a n ds e → c.wp P Q a w

section
variable {P : Program} {ops : Array Oper} {Q : Exit → Act → World → Prop} {n : Nat} {ds : List Deferred} {rest : List Oper} {e : Env} {w : World}

/-- What a guard says, off the listed slots. -/
def wantE (ops : Array Oper) (e : Env) : Option (Nat × Bool) → Bool
  | none => true
  | some (j, want) =>
    match (ops[j]?).bind (·.dst) with
    | some d => knows e d && (match look e d with | .bool b => b == want | _ => false)
    | none => false

/-- That the guard says no, off the listed slots. -/
def wantN (ops : Array Oper) (e : Env) : Option (Nat × Bool) → Bool
  | none => false
  | some (j, want) =>
    match (ops[j]?).bind (·.dst) with
    | some d => knows e d && (match look e d with | .bool b => b != want | _ => true)
    | none => true

theorem wanted_of {a : Act} (h : Fits a n ds e) {o : Oper} (hw : wantE ops e o.guard = true) : Region.wanted o (yielded ops a.tmps) = true := by
  unfold Region.wanted
  cases hg : o.guard with
  | none => rfl
  | some gw =>
    obtain ⟨j, want⟩ := gw
    rw [hg] at hw
    simp only [wantE] at hw
    simp only [yielded]
    cases hd : (ops[j]?).bind (·.dst) with
    | none => rw [hd] at hw; simp at hw
    | some d =>
      rw [hd] at hw
      simp only [Bool.and_eq_true] at hw
      simp only [Option.bind_some, h.has d hw.1]
      have h2 := hw.2
      revert h2
      cases look e d <;> simp

theorem wanted_not {a : Act} (h : Fits a n ds e) {o : Oper} (hw : wantN ops e o.guard = true) : Region.wanted o (yielded ops a.tmps) = false := by
  unfold Region.wanted
  cases hg : o.guard with
  | none => rw [hg] at hw; simp [wantN] at hw
  | some gw =>
    obtain ⟨j, want⟩ := gw
    rw [hg] at hw
    simp only [wantN] at hw
    simp only [yielded]
    cases hd : (ops[j]?).bind (·.dst) with
    | none => simp
    | some d =>
      rw [hd] at hw
      simp only [Bool.and_eq_true] at hw
      simp only [Option.bind_some, h.has d hw.1]
      have h2 := hw.2
      revert h2
      cases look e d <;> simp

/-- An operation that yields a value. -/
theorem WL.v {d : Nat} {op : Op} {ty : TypeId} {pos : String} {af : Array Edge} {g : Option (Nat × Bool)} {v : Value} {w' : World}
    (hr : (execOp (ev e) ⟨some d, op, ty, pos, af, g⟩).run P w = .ok (.value v) w') (hc : cov e op = true) (hn : Nat.blt d n = true) (hg : wantE ops e g = true)
    (k : WL P ops Q n ds rest ((d, v) :: e) w') : WL P ops Q n ds (⟨some d, op, ty, pos, af, g⟩ :: rest) e w := by
  intro a ha
  unfold wpList
  rw [if_pos (wanted_of ha hg)]
  refine .inl ?_
  unfold Oper.wp
  rw [ha.exec hc, hr]
  exact k _ (ha.put hn v)

/-- An operation that is not wanted. -/
theorem WL.no {d : Nat} {op : Op} {ty : TypeId} {pos : String} {af : Array Edge} {g : Option (Nat × Bool)} (hn : Nat.blt d n = true) (hg : wantN ops e g = true)
    (k : WL P ops Q n ds rest ((d, undef) :: e) w) : WL P ops Q n ds (⟨some d, op, ty, pos, af, g⟩ :: rest) e w := by
  intro a ha
  unfold wpList
  rw [if_neg (by rw [wanted_not ha hg]; simp)]
  exact k _ (ha.put hn undef)

/-- An operation that yields nothing (a store). -/
theorem WL.s {op : Op} {ty : TypeId} {pos : String} {af : Array Edge} {g : Option (Nat × Bool)} {w' : World}
    (hr : (execOp (ev e) ⟨none, op, ty, pos, af, g⟩).run P w = .ok .skip w') (hc : cov e op = true) (hg : wantE ops e g = true)
    (k : WL P ops Q n ds rest e w') : WL P ops Q n ds (⟨none, op, ty, pos, af, g⟩ :: rest) e w := by
  intro a ha
  unfold wpList
  rw [if_pos (wanted_of ha hg)]
  refine .inl ?_
  unfold Oper.wp
  rw [ha.exec hc, hr]
  exact k _ ha

/-- An operation whose value nobody takes. -/
theorem WL.vn {op : Op} {ty : TypeId} {pos : String} {af : Array Edge} {g : Option (Nat × Bool)} {v : Value} {w' : World}
    (hr : (execOp (ev e) ⟨none, op, ty, pos, af, g⟩).run P w = .ok (.value v) w') (hc : cov e op = true) (hg : wantE ops e g = true)
    (k : WL P ops Q n ds rest e w') : WL P ops Q n ds (⟨none, op, ty, pos, af, g⟩ :: rest) e w := by
  intro a ha
  unfold wpList
  rw [if_pos (wanted_of ha hg)]
  refine .inl ?_
  unfold Oper.wp
  rw [ha.exec hc, hr]
  exact k _ ha

/-- A call of a Go function, by its contract. -/
theorem WL.call {d : Nat} {op : Op} {ty : TypeId} {pos : String} {af : Array Edge} {g : Option (Nat × Bool)} {f : FuncId} {args : Array Value} {φ : Value → World → Prop}
    (hr : (execOp (ev e) ⟨some d, op, ty, pos, af, g⟩).run P w = .ok (.enter f args) w) (hc : cov e op = true) (hn : Nat.blt d n = true) (hg : wantE ops e g = true)
    (hk : Calls P f args w (Ret φ)) (k : ∀ v w', φ v w' → WL P ops Q n ds rest ((d, v) :: e) w') : WL P ops Q n ds (⟨some d, op, ty, pos, af, g⟩ :: rest) e w := by
  intro a ha
  unfold wpList
  rw [if_pos (wanted_of ha hg)]
  refine .inl ?_
  unfold Oper.wp
  rw [ha.exec hc, hr]
  refine hk.mono ?_
  rintro en w' ⟨v, rfl, hφ⟩
  exact k v w' hφ _ (ha.put hn v)

/-- A call whose result nobody takes. -/
theorem WL.calln {op : Op} {ty : TypeId} {pos : String} {af : Array Edge} {g : Option (Nat × Bool)} {f : FuncId} {args : Array Value} {φ : Value → World → Prop}
    (hr : (execOp (ev e) ⟨none, op, ty, pos, af, g⟩).run P w = .ok (.enter f args) w) (hc : cov e op = true) (hg : wantE ops e g = true)
    (hk : Calls P f args w (Ret φ)) (k : ∀ v w', φ v w' → WL P ops Q n ds rest e w') : WL P ops Q n ds (⟨none, op, ty, pos, af, g⟩ :: rest) e w := by
  intro a ha
  unfold wpList
  rw [if_pos (wanted_of ha hg)]
  refine .inl ?_
  unfold Oper.wp
  rw [ha.exec hc, hr]
  refine hk.mono ?_
  rintro en w' ⟨v, rfl, hφ⟩
  exact k v w' hφ _ ha

/-- The list's end. -/
theorem WL.nil (h : ∀ a, Fits a n ds e → Q .normal a w) : WL P ops Q n ds [] e w := fun a ha => h a ha

theorem WL.fin {K : Act → World → Prop} {X : Env → World → Prop} (hK : ∀ e' w', X e' w' → ∀ a, Fits a n ds e' → K a w') (hq : ∀ a w, K a w → Q .normal a w) (k : X e w) : WL P ops Q n ds [] e w :=
  fun a ha => hq a w (hK e w k a ha)

/-- What is listed may be forgotten. -/
theorem WL.sub {e' : Env} (hs : Sub e' e) (k : WL P ops Q n ds rest e' w) : WL P ops Q n ds rest e w := fun a ha => k a (ha.mono hs)

/-! ### Code -/

theorem WC.sub {c : Code} {e' : Env} (hs : Sub e' e) (k : WC P c Q n ds e' w) : WC P c Q n ds e w := fun a ha => k a (ha.mono hs)

theorem WC.region {id : Nat} {l : List Oper} (k : WL P l.toArray Q n ds l e w) : WC P (.region id l.toArray false) Q n ds e w := fun a ha => wp_region_lit (k a ha)

/-- What follows stands behind a variable. -/
theorem WC.seq {x y : Code} (h : ∀ K : Act → World → Prop, (∀ e' w', WC P y Q n ds e' w' → ∀ a, Fits a n ds e' → K a w') → WC P x (Exit.then K Q) n ds e w) : WC P (.seq x y) Q n ds e w := by
  intro a ha
  refine wp_seq_k fun K hK => h K (fun e' w' hy a' ha' => hK a' w' (hy a' ha')) a ha

theorem WC.skip (h : ∀ a, Fits a n ds e → Q .normal a w) : WC P .skip Q n ds e w := fun a ha => wp_skip (h a ha)
theorem WC.exit {id : Nat} (h : ∀ a, Fits a n ds e → Q (.exit id) a w) : WC P (.exit id) Q n ds e w := fun a ha => wp_exit (h a ha)
theorem WC.skipF {K : Act → World → Prop} {X : Env → World → Prop} (hK : ∀ e' w', X e' w' → ∀ a, Fits a n ds e' → K a w') (hq : ∀ a w, K a w → Q .normal a w) (k : X e w) : WC P .skip Q n ds e w :=
  fun a ha => wp_skip (hq a w (hK e w k a ha))
theorem WC.exitF {id : Nat} {K : Act → World → Prop} {X : Env → World → Prop} (hK : ∀ e' w', X e' w' → ∀ a, Fits a n ds e' → K a w') (hq : ∀ a w, K a w → Q (.exit id) a w) (k : X e w) : WC P (.exit id) Q n ds e w :=
  fun a ha => wp_exit (hq a w (hK e w k a ha))
theorem WC.ret (h : ∀ a, Fits a n ds e → Q .ret a w) : WC P .ret Q n ds e w := fun a ha => wp_ret (h a ha)
theorem WC.block {id : Nat} {c : Code} (h : WC P c (Exit.inBlock id Q) n ds e w) : WC P (.block id c) Q n ds e w := fun a ha => wp_block (h a ha)
theorem WC.condT {c : Operand} {x y : Code} (hc : okX e c = true) (hv : ev e c = .bool true) (h : WC P x Q n ds e w) : WC P (.cond c x y) Q n ds e w :=
  fun a ha => wp_cond_true ((ha.eval hc).trans hv) (h a ha)
theorem WC.condF {c : Operand} {x y : Code} (hc : okX e c = true) (hv : ev e c = .bool false) (h : WC P y Q n ds e w) : WC P (.cond c x y) Q n ds e w :=
  fun a ha => wp_cond_false ((ha.eval hc).trans hv) (h a ha)

/-- A sequence cut in two: behind the first code one of a family of states holds. -/
theorem WC.cut {ι : Type} {x y : Code} (E : ι → Env) (φ : ι → World → Prop) (k : ∀ i w', φ i w' → WC P y Q n ds (E i) w')
    (h : ∀ K : Act → World → Prop, (∀ i w', φ i w' → ∀ a, Fits a n ds (E i) → K a w') → WC P x (Exit.then K Q) n ds e w) : WC P (.seq x y) Q n ds e w := by
  intro a ha
  refine wp_seq_k fun K hK => h K (fun i w' hi a' ha' => hK a' w' (k i w' hi a' ha')) a ha

/-- A LOOP: a family of states with a number that every round lowers. -/
theorem WC.loop {ι : Type} {c : Code} (E : ι → Env) (φ : ι → World → Prop) (μ : ι → Nat) (i0 : ι) (h0 : φ i0 w) (hs : Sub (E i0) e)
    (round : ∀ i w', φ i w' → ∀ K : Act → World → Prop, (∀ j w'', φ j w'' → μ j < μ i → ∀ a, Fits a n ds (E j) → K a w'') → WC P c (Exit.then K Q) n ds (E i) w') : WC P (.loop c) Q n ds e w := by
  intro a ha
  refine wp_loop_ghost (fun m a' w' => ∃ i, μ i = m ∧ φ i w' ∧ Fits a' n ds (E i)) (μ i0) ⟨i0, rfl, h0, ha.mono hs⟩ ?_
  rintro m a' w' ⟨i, rfl, hi, hf⟩
  exact round i w' hi _ (fun j w'' hj hlt a'' ha'' => ⟨μ j, hlt, j, rfl, hj, ha''⟩) a' hf

/-! The ends of a loop's round, and of a part that was cut off. -/
theorem WL.next {ι : Type} {E : ι → Env} {φ : ι → World → Prop} {μ : ι → Nat} {m : Nat} {K : Act → World → Prop} (hK : ∀ j w'', φ j w'' → μ j < m → ∀ a, Fits a n ds (E j) → K a w'') (hq : ∀ a w, K a w → Q .normal a w)
    (j : ι) (hj : φ j w) (hm : μ j < m) (hs : Sub (E j) e) : WL P ops Q n ds [] e w := fun a ha => hq a w (hK j w hj hm a (ha.mono hs))
theorem WC.skipN {ι : Type} {E : ι → Env} {φ : ι → World → Prop} {μ : ι → Nat} {m : Nat} {K : Act → World → Prop} (hK : ∀ j w'', φ j w'' → μ j < m → ∀ a, Fits a n ds (E j) → K a w'') (hq : ∀ a w, K a w → Q .normal a w)
    (j : ι) (hj : φ j w) (hm : μ j < m) (hs : Sub (E j) e) : WC P .skip Q n ds e w := fun a ha => wp_skip (hq a w (hK j w hj hm a (ha.mono hs)))
theorem WC.exitN {id : Nat} {ι : Type} {E : ι → Env} {φ : ι → World → Prop} {μ : ι → Nat} {m : Nat} {K : Act → World → Prop} (hK : ∀ j w'', φ j w'' → μ j < m → ∀ a, Fits a n ds (E j) → K a w'') (hq : ∀ a w, K a w → Q (.exit id) a w)
    (j : ι) (hj : φ j w) (hm : μ j < m) (hs : Sub (E j) e) : WC P (.exit id) Q n ds e w := fun a ha => wp_exit (hq a w (hK j w hj hm a (ha.mono hs)))
theorem WL.join {ι : Type} {E : ι → Env} {φ : ι → World → Prop} {K : Act → World → Prop} (hK : ∀ i w', φ i w' → ∀ a, Fits a n ds (E i) → K a w') (hq : ∀ a w, K a w → Q .normal a w)
    (j : ι) (hj : φ j w) (hs : Sub (E j) e) : WL P ops Q n ds [] e w := fun a ha => hq a w (hK j w hj a (ha.mono hs))
theorem WC.skipJ {ι : Type} {E : ι → Env} {φ : ι → World → Prop} {K : Act → World → Prop} (hK : ∀ i w', φ i w' → ∀ a, Fits a n ds (E i) → K a w') (hq : ∀ a w, K a w → Q .normal a w)
    (j : ι) (hj : φ j w) (hs : Sub (E j) e) : WC P .skip Q n ds e w := fun a ha => wp_skip (hq a w (hK j w hj a (ha.mono hs)))
theorem WC.exitJ {id : Nat} {ι : Type} {E : ι → Env} {φ : ι → World → Prop} {K : Act → World → Prop} (hK : ∀ i w', φ i w' → ∀ a, Fits a n ds (E i) → K a w') (hq : ∀ a w, K a w → Q (.exit id) a w)
    (j : ι) (hj : φ j w) (hs : Sub (E j) e) : WC P (.exit id) Q n ds e w := fun a ha => wp_exit (hq a w (hK j w hj a (ha.mono hs)))
end

/-! ### Entering and leaving a function -/

section
variable {P : Program} {f : FuncId} {fn : Func} {c : Code} {R : Ending → World → Prop} {w : World}

def envOf : Nat → List Value → Env
  | _, [] => []
  | i, v :: vs => (i, v) :: envOf (i + 1) vs

theorem envOf_spec (vs : List Value) : ∀ i t, knows (envOf i vs) t = true → i ≤ t ∧ vs[t - i]? = some (look (envOf i vs) t) := by
  induction vs with
  | nil => intro i t h; simp [envOf, knows] at h
  | cons v vs ih =>
    intro i t h
    simp only [envOf, knows, look] at h ⊢
    cases hb : Nat.beq i t
    · rw [hb] at h
      simp only [cond_false] at h ⊢
      obtain ⟨h1, h2⟩ := ih (i + 1) t h
      refine ⟨by omega, ?_⟩
      rw [show t - i = (t - (i + 1)) + 1 by omega]
      simpa using h2
    · have := Nat.eq_of_beq_eq_true hb
      subst this
      simp

theorem fits_start {vs : List Value} {n : Nat} (hn : Nat.ble vs.length n = true) : Fits { tmps := vs.toArray ++ Array.replicate (n - vs.toArray.size) undef, defers := [] } n [] (envOf 0 vs) := by
  refine ⟨?_, rfl, fun t ht => ?_⟩
  · have : vs.length ≤ n := Nat.le_of_ble_eq_true hn
    simp; omega
  · obtain ⟨_, h2⟩ := envOf_spec vs 0 t ht
    simp only [Nat.sub_zero] at h2
    have hlt : t < vs.length := (List.getElem?_eq_some_iff.1 h2).1
    rw [Array.getElem?_append_left (by simpa using hlt)]
    simpa using h2

theorem enter {n : Nat} (vs : List Value) (hf : P.funcs[f]? = some fn) (hb : fn.body = some c) (hnt : fn.ntmps = n) (hn : Nat.ble vs.length n = true)
    (h : WC P c (bodyPost P fn R) n [] (envOf 0 vs) w) : Calls P f vs.toArray w R := by
  subst hnt
  exact calls_of_wp hf hb (h _ (fits_start hn))

theorem enterD {n : Nat} (vs : List Value) (hf : P.funcs[f]? = some fn) (hb : fn.body = some c) (hnt : fn.ntmps = n) (hn : Nat.ble vs.length n = true)
    (h : WC P c (bodyPostD P fn R) n [] (envOf 0 vs) w) : Calls P f vs.toArray w R := by
  subst hnt
  exact calls_of_wp_defers hf hb (h _ (fits_start hn))

variable {n : Nat} {e : Env} {Q : Exit → Act → World → Prop}

theorem WC.ret0 (hr : fn.results = #[]) (hq : ∀ a w, bodyPost P fn R .ret a w → Q .ret a w) (h : R (.returned (.tuple #[])) w) : WC P .ret Q n [] e w :=
  fun a ha => wp_ret (hq a w (bodyPost_ret (results_none hr _ _ _) ha.defers h))
theorem WL.end0 {ops : Array Oper} (hr : fn.results = #[]) (hq : ∀ a w, bodyPost P fn R .normal a w → Q .normal a w) (h : R (.returned (.tuple #[])) w) : WL P ops Q n [] [] e w :=
  fun a ha => hq a w (bodyPost_end (results_none hr _ _ _) ha.defers h)
theorem WC.skip0 (hr : fn.results = #[]) (hq : ∀ a w, bodyPost P fn R .normal a w → Q .normal a w) (h : R (.returned (.tuple #[])) w) : WC P .skip Q n [] e w :=
  fun a ha => wp_skip (hq a w (bodyPost_end (results_none hr _ _ _) ha.defers h))
theorem WC.exit0 {id : Nat} (hr : fn.results = #[]) (hq : ∀ a w, bodyPost P fn R .normal a w → Q (.exit id) a w) (h : R (.returned (.tuple #[])) w) : WC P (.exit id) Q n [] e w :=
  fun a ha => wp_exit (hq a w (bodyPost_end (results_none hr _ _ _) ha.defers h))
theorem WC.ret1 {t : Nat} (hr : fn.results = #[.tmp t]) (hq : ∀ a w, bodyPost P fn R .ret a w → Q .ret a w) (hk : knows e t = true) (h : R (.returned (look e t)) w) : WC P .ret Q n [] e w :=
  fun a ha => wp_ret (hq a w (bodyPost_ret (by rw [results_tmp hr, ha.getD hk]) ha.defers h))
theorem WC.ret2 {t u : Nat} (hr : fn.results = #[.tmp t, .tmp u]) (hq : ∀ a w, bodyPost P fn R .ret a w → Q .ret a w) (hk : (knows e t && knows e u) = true) (h : R (.returned (.tuple #[look e t, look e u])) w) : WC P .ret Q n [] e w := by
  simp only [Bool.and_eq_true] at hk
  exact fun a ha => wp_ret (hq a w (bodyPost_ret (by rw [results_tmp2 hr, ha.getD hk.1, ha.getD hk.2]) ha.defers h))
theorem WC.ret3 {t u x : Nat} (hr : fn.results = #[.tmp t, .tmp u, .tmp x]) (hq : ∀ a w, bodyPost P fn R .ret a w → Q .ret a w) (hk : (knows e t && knows e u && knows e x) = true) (h : R (.returned (.tuple #[look e t, look e u, look e x])) w) : WC P .ret Q n [] e w := by
  simp only [Bool.and_eq_true] at hk
  exact fun a ha => wp_ret (hq a w (bodyPost_ret (by rw [results_tmp3 hr, ha.getD hk.1.1, ha.getD hk.1.2, ha.getD hk.2]) ha.defers h))
end

end Go.E1
