import Derived.Test.Qxb6500834aGreatDoorTy
import Derived.Test.Qxb6500834aGreatDoorC7
set_option linter.unusedVariables false
set_option linter.unusedSimpArgs false
set_option maxRecDepth 20000
namespace Go.Kern
open Go Go.RowKit Go.E1

abbrev S0 (w0 : World) (l : List HI) (w : World) : Prop := St w0 (fun _ => False) l w

/-! The kernel as plain data. -/
structure TK where
  live : Bool
  birth : Nat
  epoch : Nat
  waiting : Bool
  timer : Nat
  deadline : Nat
  n : Nat
  ec : Nat → Nat
  eo : Nat → Nat
def tk0 : TK := ⟨false, 0, 0, false, 0, 0, 0, fun _ => 0, fun _ => 0⟩
structure KS where
  mode : Nat
  now : Nat
  armed : Nat
  births : Nat
  tk : Nat → TK
  cells : Nat → Nat
  held : Nat → Nat → Nat
  claim : Nat → Nat → Nat
  queue : Nat → List (Nat × Nat)
  timers : List (Nat × Nat × Nat)
  told : List (Nat × Nat × Nat)
def ks0 : KS := ⟨0, 0, 0, 0, fun _ => tk0, fun _ => 0, fun _ _ => 0, fun _ _ => 0, fun _ => [], [], []⟩
def updN {α : Type} (f : Nat → α) (i : Nat) (v : α) : Nat → α := fun j => if j = i then v else f j
def upd2 {α : Type} (f : Nat → Nat → α) (i j : Nat) (v : α) : Nat → Nat → α := fun a b => if a = i ∧ b = j then v else f a b
theorem updN_same {α : Type} {f : Nat → α} {i : Nat} {v : α} : updN f i v i = v := if_pos rfl
theorem updN_ne {α : Type} {f : Nat → α} {i j : Nat} {v : α} (h : j ≠ i) : updN f i v j = f j := if_neg h

/-! The kernel in memory. -/
def tkF (T : TK) (j : Nat) : Value :=
  if j < 7 then nth [.bool T.live, .int .u64 (T.birth : Nat), .int .u64 (T.epoch : Nat), .bool T.waiting, .int .u64 (T.timer : Nat), .int .u64 (T.deadline : Nat), .int .i64 (T.n : Nat)] j
  else if (j - 7) % 2 = 0 then .int .i64 (T.ec ((j - 7) / 2) : Nat) else .int .u64 (T.eo ((j - 7) / 2) : Nat)
def kF (bm br bp : Nat) (tk : Nat → TK) (cells : Nat → Nat) (births : Nat) (ov : Value) (i : Nat) : Value :=
  if i < 3 then nth [.pointer (some ⟨bm, 0, none⟩), .pointer (some ⟨br, 0, none⟩), .pointer (some ⟨bp, 0, none⟩)] i
  else if i < 2163 then tkF (tk ((i - 3) / 135)) ((i - 3) % 135)
  else if i < 2175 then .int .u64 (cells (i - 2163) : Nat)
  else if i = 2175 then .int .u64 (births : Nat) else ov
def rF (held : Nat → Nat → Nat) (qv : Nat → Value) (i : Nat) : Value := if i < 320 then .int .i64 (held (i / 20) (i % 20) : Nat) else qv (i - 320)
def pF (mode : Nat) (claim : Nat → Nat → Nat) (i : Nat) : Value := if i = 0 then .int .i64 (mode : Nat) else .int .i64 (claim ((i - 1) / 20) ((i - 1) % 20) : Nat)
def qE (p : Nat × Nat) (j : Nat) : Value := nth [.int .i64 (p.1 : Nat), .int .i64 (p.2 : Nat)] j
def tE (p : Nat × Nat × Nat) (j : Nat) : Value := nth [.int .u64 (p.1 : Nat), .int .u64 (p.2.1 : Nat), .int .u64 (p.2.2 : Nat)] j
def oE (p : Nat × Nat × Nat) (j : Nat) : Value := nth [.int .i64 (p.1 : Nat), .int .u64 (p.2.1 : Nat), .int .i64 (p.2.2 : Nat)] j
structure KM where
  bk : Nat
  bm : Nat
  br : Nat
  bp : Nat
  qv : Nat → Value
  XQ : Nat → List HI
  tv : Value
  XT : List HI
  ov : Value
  XO : List HI
abbrev kI (M : KM) (s : KS) : HI := (M.bk, Row 120 2177 (kF M.bm M.br M.bp s.tk s.cells s.births M.ov))
abbrev mI (bm now armed : Nat) (tv : Value) : HI := (bm, Row 147 3 (nth [.int .u64 (now : Nat), .int .u64 (armed : Nat), tv]))
abbrev rI (br : Nat) (held : Nat → Nat → Nat) (qv : Nat → Value) : HI := (br, Row 149 340 (rF held qv))
abbrev pI (bp mode : Nat) (claim : Nat → Nat → Nat) : HI := (bp, Row 131 321 (pF mode claim))
abbrev KIs (M : KM) (s : KS) (l : List HI) : List HI := kI M s :: mI M.bm s.now s.armed M.tv :: rI M.br s.held M.qv :: pI M.bp s.mode s.claim :: (M.XT ++ (M.XO ++ (gather 20 M.XQ ++ l)))
abbrev QL0 (v : Value) (L : List (Nat × Nat)) (XI : List HI) : Prop := LO 61 2 qE v L XI
abbrev TL0 (v : Value) (L : List (Nat × Nat × Nat)) (XI : List HI) : Prop := LO 164 3 tE v L XI
abbrev OL0 (v : Value) (L : List (Nat × Nat × Nat)) (XI : List HI) : Prop := LO 83 3 oE v L XI
structure KOK (M : KM) (s : KS) : Prop where
  q : ∀ r, r < 20 → QL0 (M.qv r) (s.queue r) (M.XQ r)
  t : TL0 M.tv s.timers M.XT
  o : OL0 M.ov s.told M.XO
/-! What the kernel's data keep to. -/
structure KB0 (s : KS) : Prop where
  mode : s.mode < 4
  held : ∀ t r, s.held t r ≤ 16
  claim : ∀ t r, s.claim t r ≤ 16
  qt : ∀ r p, p ∈ s.queue r → p.1 < 16 ∧ 1 ≤ p.2 ∧ p.2 ≤ 16
  qn : ∀ r, (s.queue r).length ≤ 16
  n : ∀ t, (s.tk t).n ≤ 64
  ec : ∀ t i, (s.tk t).ec i < 12
  tt : ∀ p, p ∈ s.timers → p.2.2 < 16
  tn : s.timers.length ≤ 16
end Go.Kern
namespace Go.Proofs.Qxb6500834aGreatDoor
open Go.RowKit Go.E1 Go.Kern
variable {w0 : World} {L L' l I J K K' : List HI} {w : World} {M : KM} {s : KS}

theorem kF_t {bm br bp : Nat} {tk : Nat → TK} {cells : Nat → Nat} {births : Nat} {ov : Value} {t j : Nat} (ht : t < 16) (hj : j < 135) : kF bm br bp tk cells births ov (3 + t * 135 + j) = tkF (tk t) j := by
  unfold kF
  rw [if_neg (by omega), if_pos (by omega), show (3 + t * 135 + j - 3) / 135 = t by omega, show (3 + t * 135 + j - 3) % 135 = j by omega]
theorem rF_h {held : Nat → Nat → Nat} {qv : Nat → Value} {t r : Nat} (ht : t < 16) (hr : r < 20) : rF held qv (t * 20 + r) = .int .i64 (held t r : Nat) := by
  unfold rF
  rw [if_pos (by omega), show (t * 20 + r) / 20 = t by omega, show (t * 20 + r) % 20 = r by omega]
theorem rF_q {held : Nat → Nat → Nat} {qv : Nat → Value} {r : Nat} : rF held qv (320 + r) = qv r := by
  unfold rF
  rw [if_neg (by omega), show 320 + r - 320 = r by omega]
theorem pF_c {mode : Nat} {claim : Nat → Nat → Nat} {t r : Nat} (ht : t < 16) (hr : r < 20) : pF mode claim (1 + t * 20 + r) = .int .i64 (claim t r : Nat) := by
  unfold pF
  rw [if_neg (by omega), show (1 + t * 20 + r - 1) / 20 = t by omega, show (1 + t * 20 + r - 1) % 20 = r by omega]
/-! Reads. -/
theorem c_held {br : Nat} {held : Nat → Nat → Nat} {qv : Nat → Value} {t r : Nat} (st : S0 w0 l w) (hm : rI br held qv ∈ l) (ht : t < 16) (hr : r < 20) : w.cell? ⟨br, 0 + 0 + t * 20 + r * 1, none⟩ = some (.int .i64 (held t r : Nat)) := by
  rw [st.cell hm (by omega), show 0 + 0 + t * 20 + r * 1 = t * 20 + r by omega, rF_h ht hr]
theorem c_queue {br : Nat} {held : Nat → Nat → Nat} {qv : Nat → Value} {r : Nat} (st : S0 w0 l w) (hm : rI br held qv ∈ l) (hr : r < 20) : w.cell? ⟨br, 0 + 320 + r * 1, none⟩ = some (qv r) := by
  rw [st.cell hm (by omega), show 0 + 320 + r * 1 = 320 + r by omega, rF_q]
theorem c_claim {bp mode : Nat} {claim : Nat → Nat → Nat} {t r : Nat} (st : S0 w0 l w) (hm : pI bp mode claim ∈ l) (ht : t < 16) (hr : r < 20) : w.cell? ⟨bp, 0 + 1 + t * 20 + r * 1, none⟩ = some (.int .i64 (claim t r : Nat)) := by
  rw [st.cell hm (by omega), show 0 + 1 + t * 20 + r * 1 = 1 + t * 20 + r by omega, pF_c ht hr]
theorem c_mode {bp mode : Nat} {claim : Nat → Nat → Nat} (st : S0 w0 l w) (hm : pI bp mode claim ∈ l) : w.cell? ⟨bp, 0 + 0, none⟩ = some (.int .i64 (mode : Nat)) := by
  rw [st.cell hm (by omega)]; rfl
theorem c_task {t j : Nat} (st : S0 w0 l w) (hm : kI M s ∈ l) (ht : t < 16) (hj : j < 135) : w.cell? ⟨M.bk, 0 + 3 + t * 135 + j, none⟩ = some (tkF (s.tk t) j) := by
  rw [st.cell hm (by omega), show 0 + 3 + t * 135 + j = 3 + t * 135 + j by omega, kF_t ht hj]
end Go.Proofs.Qxb6500834aGreatDoor

