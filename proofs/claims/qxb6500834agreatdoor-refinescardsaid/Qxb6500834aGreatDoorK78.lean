import Derived.Test.Qxb6500834aGreatDoorK77
set_option linter.unusedVariables false
set_option linter.unusedSimpArgs false
set_option maxRecDepth 20000
namespace Go.Proofs.Qxb6500834aGreatDoor
open Go.RowKit Go.E1 Go.Kern
/-! The model's memory. -/
structure PQ where
  t : Nat
  r : Nat
  u : Nat
  d : Nat
  n : Nat
def pE (q : PQ) (j : Nat) : Value := nth [.int .i64 (q.t : Nat), .int .i64 (q.r : Nat), .int .i64 (q.u : Nat), .int .u64 (q.d : Nat), .int .u64 (q.n : Nat)] j
abbrev PL0 (v : Value) (L : List PQ) (XI : List HI) : Prop := LO 102 5 pE v L XI
structure MR where
  mode : Nat
  now : Nat
  births : Nat
  timed : Nat
  live : Nat → Bool
  birth : Nat → Nat
  epoch : Nat → Nat
  held : Nat → Nat → Nat
  claim : Nat → Nat → Nat
  cells : Nat → Nat
  wr : Nat → Nat
variable {w0 : World} {l X : List HI} {w : World} {s s' s0 : KS} {t r N n : Nat} {qv qv' : Nat → Value}
variable {P : List PQ} {m : MR} {pv tv v : Value} {mb : Nat → Nat} {bm : Nat}
def moF (m : MR) (pv tv : Value) (mb : Nat → Nat) (k : Nat) : Value :=
  if k < 4 then nth [.int .i64 (m.mode : Nat), .int .u64 (m.now : Nat), .int .u64 (m.births : Nat), .int .u64 (m.timed : Nat)] k
  else if k < 20 then .bool (m.live (k - 4))
  else if k < 36 then .int .u64 (m.birth (k - 20) : Nat)
  else if k < 52 then .int .u64 (m.epoch (k - 36) : Nat)
  else if k < 372 then hM m.held (k - 52)
  else if k < 692 then hM m.claim (k - 372)
  else if k < 693 then pv
  else if k < 705 then .int .u64 (m.cells (k - 693) : Nat)
  else if k < 721 then .map (some (mb (k - 705)))
  else if k < 737 then .int .i64 (m.wr (k - 721) : Nat)
  else tv
abbrev moI (bm : Nat) (m : MR) (pv tv : Value) (mb : Nat → Nat) : HI := (bm, Row 98 738 (moF m pv tv mb))
theorem mo_live {i : Nat} (hi : i < 16) : moF m pv tv mb (4 + i) = .bool (m.live i) := by unfold moF; rw [if_neg (by omega), if_pos (by omega), show 4 + i - 4 = i by omega]
theorem mo_birth {i : Nat} (hi : i < 16) : moF m pv tv mb (20 + i) = .int .u64 (m.birth i : Nat) := by unfold moF; rw [if_neg (by omega), if_neg (by omega), if_pos (by omega), show 20 + i - 20 = i by omega]
theorem mo_epoch {i : Nat} (hi : i < 16) : moF m pv tv mb (36 + i) = .int .u64 (m.epoch i : Nat) := by unfold moF; rw [if_neg (by omega), if_neg (by omega), if_neg (by omega), if_pos (by omega), show 36 + i - 36 = i by omega]
theorem mo_held {i : Nat} (hi : i < 320) : moF m pv tv mb (52 + i) = hM m.held i := by unfold moF; rw [if_neg (by omega), if_neg (by omega), if_neg (by omega), if_neg (by omega), if_pos (by omega), show 52 + i - 52 = i by omega]
theorem mo_claim {i : Nat} (hi : i < 320) : moF m pv tv mb (372 + i) = hM m.claim i := by unfold moF; rw [if_neg (by omega), if_neg (by omega), if_neg (by omega), if_neg (by omega), if_neg (by omega), if_pos (by omega), show 372 + i - 372 = i by omega]
theorem mo_pend : moF m pv tv mb 692 = pv := rfl
theorem mo_cells {i : Nat} (hi : i < 12) : moF m pv tv mb (693 + i) = .int .u64 (m.cells i : Nat) := by unfold moF; rw [if_neg (by omega), if_neg (by omega), if_neg (by omega), if_neg (by omega), if_neg (by omega), if_neg (by omega), if_neg (by omega), if_pos (by omega), show 693 + i - 693 = i by omega]
theorem mo_before {i : Nat} (hi : i < 16) : moF m pv tv mb (705 + i) = .map (some (mb i)) := by unfold moF; rw [if_neg (by omega), if_neg (by omega), if_neg (by omega), if_neg (by omega), if_neg (by omega), if_neg (by omega), if_neg (by omega), if_neg (by omega), if_pos (by omega), show 705 + i - 705 = i by omega]
theorem mo_wr {i : Nat} (hi : i < 16) : moF m pv tv mb (721 + i) = .int .i64 (m.wr i : Nat) := by unfold moF; rw [if_neg (by omega), if_neg (by omega), if_neg (by omega), if_neg (by omega), if_neg (by omega), if_neg (by omega), if_neg (by omega), if_neg (by omega), if_neg (by omega), if_pos (by omega), show 721 + i - 721 = i by omega]
theorem mo_told : moF m pv tv mb 737 = tv := rfl
theorem c_m {b a : Nat} {x : Value} (hm : moI b m pv tv mb ∈ l) (ha : a < 738) (hx : moF m pv tv mb a = x) (st : S0 w0 l w) : w.cell? ⟨b, a, none⟩ = some x := by rw [← hx]; exact st.cell hm ha
theorem c_mlive {b a i : Nat} (hm : moI b m pv tv mb ∈ l) (hi : i < 16) (ha : a = 4 + i) (st : S0 w0 l w) : w.cell? ⟨b, a, none⟩ = some (.bool (m.live i)) := c_m hm (by omega) (by rw [ha]; exact mo_live hi) st
theorem c_mbirth {b a i : Nat} (hm : moI b m pv tv mb ∈ l) (hi : i < 16) (ha : a = 20 + i) (st : S0 w0 l w) : w.cell? ⟨b, a, none⟩ = some (.int .u64 (m.birth i : Nat)) := c_m hm (by omega) (by rw [ha]; exact mo_birth hi) st
theorem c_mepoch {b a i : Nat} (hm : moI b m pv tv mb ∈ l) (hi : i < 16) (ha : a = 36 + i) (st : S0 w0 l w) : w.cell? ⟨b, a, none⟩ = some (.int .u64 (m.epoch i : Nat)) := c_m hm (by omega) (by rw [ha]; exact mo_epoch hi) st
theorem c_mheld {b a : Nat} (hm : moI b m pv tv mb ∈ l) (ht : t < 16) (hr : r < 20) (ha : a = 52 + t * 20 + r) (st : S0 w0 l w) : w.cell? ⟨b, a, none⟩ = some (.int .i64 (m.held t r : Nat)) := c_m hm (by omega) (by rw [ha, show 52 + t * 20 + r = 52 + (t * 20 + r) by omega, mo_held (by omega)]; unfold hM; rw [show (t * 20 + r) / 20 = t by omega, show (t * 20 + r) % 20 = r by omega]) st
theorem c_mclaim {b a : Nat} (hm : moI b m pv tv mb ∈ l) (ht : t < 16) (hr : r < 20) (ha : a = 372 + t * 20 + r) (st : S0 w0 l w) : w.cell? ⟨b, a, none⟩ = some (.int .i64 (m.claim t r : Nat)) := c_m hm (by omega) (by rw [ha, show 372 + t * 20 + r = 372 + (t * 20 + r) by omega, mo_claim (by omega)]; unfold hM; rw [show (t * 20 + r) / 20 = t by omega, show (t * 20 + r) % 20 = r by omega]) st
theorem c_mcells {b a i : Nat} (hm : moI b m pv tv mb ∈ l) (hi : i < 12) (ha : a = 693 + i) (st : S0 w0 l w) : w.cell? ⟨b, a, none⟩ = some (.int .u64 (m.cells i : Nat)) := c_m hm (by omega) (by rw [ha]; exact mo_cells hi) st
theorem c_mbefore {b a i : Nat} (hm : moI b m pv tv mb ∈ l) (hi : i < 16) (ha : a = 705 + i) (st : S0 w0 l w) : w.cell? ⟨b, a, none⟩ = some (.map (some (mb i))) := c_m hm (by omega) (by rw [ha]; exact mo_before hi) st
theorem c_mwr {b a i : Nat} (hm : moI b m pv tv mb ∈ l) (hi : i < 16) (ha : a = 721 + i) (st : S0 w0 l w) : w.cell? ⟨b, a, none⟩ = some (.int .i64 (m.wr i : Nat)) := c_m hm (by omega) (by rw [ha]; exact mo_wr hi) st
theorem seg {c : Prop} [Decidable c] {a a' b b' : Value} (h1 : c → a = a') (h2 : ¬ c → b = b') : (if c then a else b) = if c then a' else b' := by
  split
  · rename_i h; exact h1 h
  · rename_i h; exact h2 h
theorem mw_split {f g : Nat → Value} {a : Nat} {x : Value} (h1 : g a = x) (h2 : ∀ k, k < 738 → k ≠ a → f k = g k) : ∀ k, k < 738 → upd f a x k = g k := fun k hk => by
  rw [upd_eq]
  by_cases e : k = a
  · rw [if_pos e, e, h1]
  · rw [if_neg e, h2 k hk e]
theorem mw_pend {x : Value} : ∀ k, k < 738 → upd (moF m pv tv mb) (0 + 692) x k = moF m x tv mb k := mw_split rfl fun k _ hk => by
  unfold moF
  exact seg (fun _ => rfl) fun h5 => seg (fun _ => rfl) fun h5 => seg (fun _ => rfl) fun h5 => seg (fun _ => rfl) fun h5 => seg (fun _ => rfl) fun h5 => seg (fun _ => rfl) fun h5 => seg (fun h => absurd (show k = 0 + 692 by omega) hk) fun _ => rfl
theorem mw_told {x : Value} : ∀ k, k < 738 → upd (moF m pv tv mb) (0 + 737) x k = moF m pv x mb k := mw_split rfl fun k hk738 hk => by
  unfold moF
  exact seg (fun _ => rfl) fun h9 => seg (fun _ => rfl) fun h9 => seg (fun _ => rfl) fun h9 => seg (fun _ => rfl) fun h9 => seg (fun _ => rfl) fun h9 => seg (fun _ => rfl) fun h9 => seg (fun _ => rfl) fun h9 => seg (fun _ => rfl) fun h9 => seg (fun _ => rfl) fun h9 => seg (fun _ => rfl) fun h9 => absurd (show k = 0 + 737 by omega) hk
theorem mw_live {i : Nat} {x : Bool} (hi : i < 16) : ∀ k, k < 738 → upd (moF m pv tv mb) (0 + 4 + i * 1) (.bool x) k = moF { m with live := updN m.live i x } pv tv mb k := mw_split (by
    rw [show 0 + 4 + i * 1 = 4 + i by omega, mo_live hi]
    show Value.bool (updN m.live i x i) = _
    rw [updN_same]) fun k _ hk => by
  have hreg : 4 ≤ k → k < 20 → updN m.live i x (k - 4) = m.live (k - 4) := fun h1 h2 => updN_ne (by omega)
  unfold moF
  exact seg (fun _ => rfl) fun h1 => seg (fun h => by show _ = Value.bool (updN m.live i x (k - 4)); rw [hreg (by omega) h]) fun _ => rfl
theorem mw_birth {i : Nat} {x : Nat} (hi : i < 16) : ∀ k, k < 738 → upd (moF m pv tv mb) (0 + 20 + i * 1) (.int .u64 (x : Nat)) k = moF { m with birth := updN m.birth i x } pv tv mb k := mw_split (by
    rw [show 0 + 20 + i * 1 = 20 + i by omega, mo_birth hi]
    show Value.int .u64 ((updN m.birth i x i : Nat) : Int) = _
    rw [updN_same]) fun k _ hk => by
  have hreg : 20 ≤ k → k < 36 → updN m.birth i x (k - 20) = m.birth (k - 20) := fun h1 h2 => updN_ne (by omega)
  unfold moF
  exact seg (fun _ => rfl) fun h1 => seg (fun _ => rfl) fun h1 => seg (fun h => by show _ = Value.int .u64 ((updN m.birth i x (k - 20) : Nat) : Int); rw [hreg (by omega) h]) fun _ => rfl
theorem mw_epoch {i : Nat} {x : Nat} (hi : i < 16) : ∀ k, k < 738 → upd (moF m pv tv mb) (0 + 36 + i * 1) (.int .u64 (x : Nat)) k = moF { m with epoch := updN m.epoch i x } pv tv mb k := mw_split (by
    rw [show 0 + 36 + i * 1 = 36 + i by omega, mo_epoch hi]
    show Value.int .u64 ((updN m.epoch i x i : Nat) : Int) = _
    rw [updN_same]) fun k _ hk => by
  have hreg : 36 ≤ k → k < 52 → updN m.epoch i x (k - 36) = m.epoch (k - 36) := fun h1 h2 => updN_ne (by omega)
  unfold moF
  exact seg (fun _ => rfl) fun h1 => seg (fun _ => rfl) fun h1 => seg (fun _ => rfl) fun h1 => seg (fun h => by show _ = Value.int .u64 ((updN m.epoch i x (k - 36) : Nat) : Int); rw [hreg (by omega) h]) fun _ => rfl
theorem mw_held {x : Nat} (ht : t < 16) (hr : r < 20) : ∀ k, k < 738 → upd (moF m pv tv mb) (0 + 52 + t * 20 + r * 1) (.int .i64 (x : Nat)) k = moF { m with held := upd2 m.held t r x } pv tv mb k := mw_split (by
    rw [show 0 + 52 + t * 20 + r * 1 = 52 + (t * 20 + r) by omega, mo_held (by omega)]
    show Value.int .i64 ((upd2 m.held t r x ((t * 20 + r) / 20) ((t * 20 + r) % 20) : Nat) : Int) = _
    unfold upd2; rw [if_pos ⟨by omega, by omega⟩]) fun k _ hk => by
  have hreg : 52 ≤ k → k < 372 → hM m.held (k - 52) = hM (upd2 m.held t r x) (k - 52) := fun h1 h2 => by
    unfold hM upd2
    rw [if_neg (by omega)]
  unfold moF
  exact seg (fun _ => rfl) fun h1 => seg (fun _ => rfl) fun h1 => seg (fun _ => rfl) fun h1 => seg (fun _ => rfl) fun h1 => seg (fun h => hreg (by omega) h) fun _ => rfl
theorem mz_held (ht : t < 16) : ∀ k, k < 738 → upds (moF m pv tv mb) (0 + 52 + t * 20) 20 (fun _ => .int .i64 0) k = moF { m with held := zapRow m.held t } pv tv mb k := fun k hk => by
  rw [upds_eq]
  by_cases h : 0 + 52 + t * 20 ≤ k ∧ k < 0 + 52 + t * 20 + 20
  · rw [if_pos h, show k = 52 + (k - 52) by omega, mo_held (by omega)]
    show _ = Value.int .i64 ((zapRow m.held t ((k - 52) / 20) ((k - 52) % 20) : Nat) : Int)
    unfold zapRow
    rw [if_pos (by omega)]; rfl
  · rw [if_neg h]
    have hreg : 52 ≤ k → k < 372 → hM m.held (k - 52) = hM (zapRow m.held t) (k - 52) := fun h1 h2 => by
      unfold hM zapRow
      rw [if_neg (by omega)]
    unfold moF
    exact seg (fun _ => rfl) fun h1 => seg (fun _ => rfl) fun h1 => seg (fun _ => rfl) fun h1 => seg (fun _ => rfl) fun h1 => seg (fun h => hreg (by omega) h) fun _ => rfl
theorem mw_claim {x : Nat} (ht : t < 16) (hr : r < 20) : ∀ k, k < 738 → upd (moF m pv tv mb) (0 + 372 + t * 20 + r * 1) (.int .i64 (x : Nat)) k = moF { m with claim := upd2 m.claim t r x } pv tv mb k := mw_split (by
    rw [show 0 + 372 + t * 20 + r * 1 = 372 + (t * 20 + r) by omega, mo_claim (by omega)]
    show Value.int .i64 ((upd2 m.claim t r x ((t * 20 + r) / 20) ((t * 20 + r) % 20) : Nat) : Int) = _
    unfold upd2; rw [if_pos ⟨by omega, by omega⟩]) fun k _ hk => by
  have hreg : 372 ≤ k → k < 692 → hM m.claim (k - 372) = hM (upd2 m.claim t r x) (k - 372) := fun h1 h2 => by
    unfold hM upd2
    rw [if_neg (by omega)]
  unfold moF
  exact seg (fun _ => rfl) fun h1 => seg (fun _ => rfl) fun h1 => seg (fun _ => rfl) fun h1 => seg (fun _ => rfl) fun h1 => seg (fun _ => rfl) fun h1 => seg (fun h => hreg (by omega) h) fun _ => rfl
theorem mz_claim (ht : t < 16) : ∀ k, k < 738 → upds (moF m pv tv mb) (0 + 372 + t * 20) 20 (fun _ => .int .i64 0) k = moF { m with claim := zapRow m.claim t } pv tv mb k := fun k hk => by
  rw [upds_eq]
  by_cases h : 0 + 372 + t * 20 ≤ k ∧ k < 0 + 372 + t * 20 + 20
  · rw [if_pos h, show k = 372 + (k - 372) by omega, mo_claim (by omega)]
    show _ = Value.int .i64 ((zapRow m.claim t ((k - 372) / 20) ((k - 372) % 20) : Nat) : Int)
    unfold zapRow
    rw [if_pos (by omega)]; rfl
  · rw [if_neg h]
    have hreg : 372 ≤ k → k < 692 → hM m.claim (k - 372) = hM (zapRow m.claim t) (k - 372) := fun h1 h2 => by
      unfold hM zapRow
      rw [if_neg (by omega)]
    unfold moF
    exact seg (fun _ => rfl) fun h1 => seg (fun _ => rfl) fun h1 => seg (fun _ => rfl) fun h1 => seg (fun _ => rfl) fun h1 => seg (fun _ => rfl) fun h1 => seg (fun h => hreg (by omega) h) fun _ => rfl
theorem mw_cells {i : Nat} {x : Nat} (hi : i < 12) : ∀ k, k < 738 → upd (moF m pv tv mb) (0 + 693 + i * 1) (.int .u64 (x : Nat)) k = moF { m with cells := updN m.cells i x } pv tv mb k := mw_split (by
    rw [show 0 + 693 + i * 1 = 693 + i by omega, mo_cells hi]
    show Value.int .u64 ((updN m.cells i x i : Nat) : Int) = _
    rw [updN_same]) fun k _ hk => by
  have hreg : 693 ≤ k → k < 705 → updN m.cells i x (k - 693) = m.cells (k - 693) := fun h1 h2 => updN_ne (by omega)
  unfold moF
  exact seg (fun _ => rfl) fun h1 => seg (fun _ => rfl) fun h1 => seg (fun _ => rfl) fun h1 => seg (fun _ => rfl) fun h1 => seg (fun _ => rfl) fun h1 => seg (fun _ => rfl) fun h1 => seg (fun _ => rfl) fun h1 => seg (fun h => by show _ = Value.int .u64 ((updN m.cells i x (k - 693) : Nat) : Int); rw [hreg (by omega) h]) fun _ => rfl
theorem mw_wr {i : Nat} {x : Nat} (hi : i < 16) : ∀ k, k < 738 → upd (moF m pv tv mb) (0 + 721 + i * 1) (.int .i64 (x : Nat)) k = moF { m with wr := updN m.wr i x } pv tv mb k := mw_split (by
    rw [show 0 + 721 + i * 1 = 721 + i by omega, mo_wr hi]
    show Value.int .i64 ((updN m.wr i x i : Nat) : Int) = _
    rw [updN_same]) fun k _ hk => by
  have hreg : 721 ≤ k → k < 737 → updN m.wr i x (k - 721) = m.wr (k - 721) := fun h1 h2 => updN_ne (by omega)
  unfold moF
  exact seg (fun _ => rfl) fun h1 => seg (fun _ => rfl) fun h1 => seg (fun _ => rfl) fun h1 => seg (fun _ => rfl) fun h1 => seg (fun _ => rfl) fun h1 => seg (fun _ => rfl) fun h1 => seg (fun _ => rfl) fun h1 => seg (fun _ => rfl) fun h1 => seg (fun _ => rfl) fun h1 => seg (fun h => by show _ = Value.int .i64 ((updN m.wr i x (k - 721) : Nat) : Int); rw [hreg (by omega) h]) fun _ => rfl
theorem mw_mode {x : Nat} : ∀ k, k < 738 → upd (moF m pv tv mb) (0 + 0) (.int .i64 (x : Nat)) k = moF { m with mode := x } pv tv mb k := mw_split rfl fun k _ hk => by
  unfold moF
  exact seg (fun h => by rcases (by omega : k = 0 ∨ k = 1 ∨ k = 2 ∨ k = 3) with e | e | e | e <;> subst e <;> first | rfl | exact absurd rfl hk) fun _ => rfl
theorem mw_now {x : Nat} : ∀ k, k < 738 → upd (moF m pv tv mb) (0 + 1) (.int .u64 (x : Nat)) k = moF { m with now := x } pv tv mb k := mw_split rfl fun k _ hk => by
  unfold moF
  exact seg (fun h => by rcases (by omega : k = 0 ∨ k = 1 ∨ k = 2 ∨ k = 3) with e | e | e | e <;> subst e <;> first | rfl | exact absurd rfl hk) fun _ => rfl
theorem mw_births {x : Nat} : ∀ k, k < 738 → upd (moF m pv tv mb) (0 + 2) (.int .u64 (x : Nat)) k = moF { m with births := x } pv tv mb k := mw_split rfl fun k _ hk => by
  unfold moF
  exact seg (fun h => by rcases (by omega : k = 0 ∨ k = 1 ∨ k = 2 ∨ k = 3) with e | e | e | e <;> subst e <;> first | rfl | exact absurd rfl hk) fun _ => rfl
theorem mw_timed {x : Nat} : ∀ k, k < 738 → upd (moF m pv tv mb) (0 + 3) (.int .u64 (x : Nat)) k = moF { m with timed := x } pv tv mb k := mw_split rfl fun k _ hk => by
  unfold moF
  exact seg (fun h => by rcases (by omega : k = 0 ∨ k = 1 ∨ k = 2 ∨ k = 3) with e | e | e | e <;> subst e <;> first | rfl | exact absurd rfl hk) fun _ => rfl
/-! Pending requests and queues. -/
def quP (P : List PQ) (r : Nat) : List (Nat × Nat) := (P.filter fun p => p.r == r).map fun p => (p.t, p.u)
structure RelP (s : KS) (P : List PQ) : Prop where
  q : ∀ r, r < 20 → s.queue r = quP P r
  l : ∀ p, p ∈ P → p.t < 16 ∧ p.r < 20
  d : ∀ p, p ∈ P → p.d = (s.tk p.t).deadline ∧ p.n = (s.tk p.t).timer
  u : P.Pairwise fun p q => p.t ≠ q.t
def noT (P : List PQ) (t : Nat) : List PQ := P.filter fun p => !(p.t == t)
theorem quP_noT {P : List PQ} : quP (noT P t) r = (quP P r).filter fun q => !(q.1 == t) := by
  unfold quP noT
  rw [List.filter_map, List.filter_filter, List.filter_filter]
  congr 1
  refine List.filter_congr fun p _ => ?_
  show (_ && _) = (_ && _)
  exact Bool.and_comm _ _
theorem quP_mem {P : List PQ} {q : Nat × Nat} : q ∈ quP P r ↔ ∃ p, p ∈ P ∧ p.r = r ∧ q = (p.t, p.u) := by
  unfold quP
  rw [List.mem_map]
  constructor
  · rintro ⟨p, hp, rfl⟩
    have := List.mem_filter.1 hp
    exact ⟨p, this.1, by simpa using this.2, rfl⟩
  · rintro ⟨p, hp, h1, rfl⟩
    exact ⟨p, List.mem_filter.2 ⟨hp, by simpa using h1⟩, rfl⟩
theorem quP_len : ∀ {P : List PQ}, (∀ p, p ∈ P → p.r < 20) → sumP (fun r => (quP P r).length) 20 = P.length
  | [], _ => rfl
  | p :: P, h => by
    have h1 := quP_len (P := P) fun q hq => h q (List.mem_cons_of_mem _ hq)
    have hp := h p List.mem_cons_self
    have e : (fun r => (quP (p :: P) r).length) = updN (fun r => (quP P r).length) p.r ((quP P p.r).length + 1) := by
      funext r
      unfold quP updN
      by_cases e : r = p.r
      · rw [if_pos e, e]; simp
      · have : (p.r == r) = false := by simpa using fun k => e k.symm
        rw [if_neg e, List.filter_cons, this]; rfl
    rw [e]
    have := sumP_upd (f := fun r => (quP P r).length) (r := p.r) (v := (quP P p.r).length + 1) 20 hp
    rw [List.length_cons]
    omega
theorem RelP.len (h : RelP s P) : P.length = qsum s.queue := by
  rw [← quP_len fun p hp => (h.l p hp).2]
  unfold qsum
  exact (sumP_congr 20 fun r hr => by rw [h.q r hr]).symm
theorem RelP.del (h : RelP s P) (hq : ∀ r, r < 20 → s'.queue r = (s.queue r).filter fun q => !(q.1 == t)) (hk : ∀ a, a ≠ t → (s'.tk a).deadline = (s.tk a).deadline ∧ (s'.tk a).timer = (s.tk a).timer) : RelP s' (noT P t) where
  q r hr := by rw [hq r hr, h.q r hr, quP_noT]
  l p hp := h.l p (List.mem_filter.1 hp).1
  d p hp := by
    have h1 := List.mem_filter.1 hp
    have h2 := hk p.t (by simpa using h1.2)
    rw [h2.1, h2.2]
    exact h.d p h1.1
  u := h.u.filter _
theorem RelP.same (h : RelP s P) (hq : s'.queue = s.queue) (hk : ∀ a, (s'.tk a).deadline = (s.tk a).deadline ∧ (s'.tk a).timer = (s.tk a).timer) : RelP s' P :=
  ⟨fun r hr => by rw [hq]; exact h.q r hr, h.l, fun p hp => by rw [(hk _).1, (hk _).2]; exact h.d p hp, h.u⟩
theorem noT_id {P : List PQ} (h : ∀ p, p ∈ P → p.t ≠ t) : noT P t = P := List.filter_eq_self.2 fun p hp => by simpa using h p hp
theorem erase_noT : ∀ {P : List PQ} {i : Nat} {p : PQ}, P.Pairwise (fun p q => p.t ≠ q.t) → P[i]? = some p → P.take i ++ P.drop (i + 1) = noT P p.t
  | [], i, p, _, h => by simp at h
  | q :: P, 0, p, hp, h => by
    obtain rfl : q = p := by simpa using h
    have h1 := List.pairwise_cons.1 hp
    show P = noT (q :: P) q.t
    unfold noT
    rw [List.filter_cons, if_neg (by simp)]
    exact (noT_id fun x hx => (h1.1 x hx).symm).symm
  | q :: P, i + 1, p, hp, h => by
    have h1 := List.pairwise_cons.1 hp
    have h2 : P[i]? = some p := by simpa using h
    have h3 := erase_noT h1.2 h2
    have hne := h1.1 p (List.mem_of_getElem? h2)
    show q :: (P.take i ++ P.drop (i + 1)) = noT (q :: P) p.t
    rw [h3]
    unfold noT
    rw [List.filter_cons, if_pos (by simpa using hne)]
theorem grant_filter {q : Nat × Nat} {Q : List (Nat × Nat)} (hi : INV s) (hr : r < 20) (hQ : s.queue r = q :: Q) : ∀ b, b < 20 → updN s.queue r Q b = (s.queue b).filter fun x => !(x.1 == q.1) := fun b hb => by
  have hqm : q ∈ s.queue r := by rw [hQ]; exact List.mem_cons_self
  unfold updN
  by_cases e : b = r
  · rw [if_pos e, e, hQ, List.filter_cons, if_neg (by simp)]
    exact (List.filter_eq_self.2 fun x hx => by simpa using one_q hi hr hQ hx).symm
  · rw [if_neg e]
    refine (List.filter_eq_self.2 fun x hx => ?_).symm
    have : x.1 ≠ q.1 := fun k => e (once_same (once_of hi) hb hr hx hqm k)
    simpa using this
theorem RelP.mem_wait (h : RelP s P) (hi : INV s) {p : PQ} (hp : p ∈ P) : (s.tk p.t).waiting = true := by
  have h1 := h.l p hp
  have h2 : (p.t, p.u) ∈ s.queue p.r := by rw [h.q p.r h1.2]; exact quP_mem.2 ⟨p, hp, rfl, rfl⟩
  exact hi.wait h2
theorem RelP.free (h : RelP s P) (hi : INV s) (hw : (s.tk t).waiting = false) : ∀ p, p ∈ P → p.t ≠ t := fun p hp e => by
  have := h.mem_wait hi hp
  rw [e, hw] at this; cases this
theorem RelP.busy (h : RelP s P) (hi : INV s) (ht : t < 16) (hw : (s.tk t).waiting = true) : ∃ (i : Nat) (p : PQ), P[i]? = some p ∧ p.t = t := by
  have h1 := hi.q t ht
  rw [hw] at h1
  have : ∃ r, r < 20 ∧ ∃ q, q ∈ s.queue r ∧ q.1 = t := Classical.byContradiction fun k => by
    have : cntP s.queue t = 0 := by
      unfold cntP
      rw [sumP_congr (g := fun _ => 0) 20 fun r hr => ?_]
      · rfl
      · exact List.countP_eq_zero.2 fun p hp => by simpa using fun e => k ⟨r, hr, p, hp, e⟩
    rw [this] at h1; cases h1
  obtain ⟨r, hr, q, hq, e⟩ := this
  rw [h.q r hr] at hq
  obtain ⟨p, hp, _, e2⟩ := quP_mem.1 hq
  obtain ⟨i, hi⟩ := List.getElem?_of_mem hp
  exact ⟨i, p, hi, by rw [e2] at e; exact e⟩
theorem first_of : ∀ {P : List PQ} {q : Nat × Nat} {Q : List (Nat × Nat)}, quP P r = q :: Q → ∃ (i : Nat) (p : PQ), P[i]? = some p ∧ p.r = r ∧ (p.t, p.u) = q ∧ ∀ k x, k < i → P[k]? = some x → x.r ≠ r
  | [], q, Q, h => by cases h
  | p :: P, q, Q, h => by
    by_cases e : p.r = r
    · have : quP (p :: P) r = (p.t, p.u) :: quP P r := by unfold quP; rw [List.filter_cons, if_pos (by simpa using e)]; rfl
      rw [this] at h
      injection h with h1 h2
      exact ⟨0, p, rfl, e, h1, fun k x hk => absurd hk (Nat.not_lt_zero _)⟩
    · have : quP (p :: P) r = quP P r := by unfold quP; rw [List.filter_cons, if_neg (by simpa using e)]
      rw [this] at h
      obtain ⟨i, p', h1, h2, h3, h4⟩ := first_of h
      refine ⟨i + 1, p', by simpa using h1, h2, h3, fun k x hk hx => ?_⟩
      cases k with
      | zero => obtain rfl : p = x := by simpa using hx
                exact e
      | succ k => exact h4 k x (by omega) (by simpa using hx)
theorem first_none {P : List PQ} (h : quP P r = []) : ∀ p, p ∈ P → p.r ≠ r := fun p hp e => by
  have : (p.t, p.u) ∈ quP P r := quP_mem.2 ⟨p, hp, e, rfl⟩
  rw [h] at this; cases this
end Go.Proofs.Qxb6500834aGreatDoor

