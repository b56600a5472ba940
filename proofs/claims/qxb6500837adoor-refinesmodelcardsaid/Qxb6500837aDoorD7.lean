import Derived.Test.Qxb6500837aDoorD6
set_option linter.unusedVariables false
set_option linter.unusedSimpArgs false
set_option maxRecDepth 20000
namespace Go.Proofs.Qxb6500837aDoor
open Go.RowKit Go.E1 Go.Disk
variable {w0 : World} {L l : List HI} {w : World} {D : DK} {m : Int}

/-- The disk as plain data. -/
structure PD where
  sec : Nat
  lim : Nat
  pc : Nat → Nat → Int
  pend : List (Nat × (Nat → Int))
  down : Bool
  armed : Bool
  fuse : Int
  keep : List Int
  tear : Int
  tb : Int
  wr : Nat

def settle (pc : Nat → Nat → Int) (l : List (Nat × (Nat → Int))) : Nat → Nat → Int := l.foldl (fun pc p => stP pc p.1 512 p.2) pc
def newest (s : Int) : Nat → List (Nat × (Nat → Int)) → Option Nat
  | _, [] => none
  | h, p :: l => match newest s (h + 1) l with
    | some q => some q
    | none => if (p.1 : Int) = s then some h else none

theorem newest_spec {s : Int} : ∀ {l : List (Nat × (Nat → Int))} {h q : Nat}, newest s h l = some q → h ≤ q ∧ q < h + l.length ∧ ∃ p, l[q - h]? = some p ∧ (p.1 : Int) = s
  | [], h, q, e => by cases e
  | p :: l, h, q, e => by
    unfold newest at e
    split at e
    · rename_i q' e'
      cases e
      obtain ⟨a, b, p', c, d⟩ := newest_spec e'
      refine ⟨by omega, by rw [List.length_cons]; omega, p', ?_, d⟩
      rw [show q - h = (q - (h + 1)) + 1 by omega]
      exact c
    · split at e
      · rename_i hp
        cases e
        exact ⟨Nat.le_refl _, by rw [List.length_cons]; omega, p, by rw [Nat.sub_self]; rfl, hp⟩
      · cases e
theorem newest_push {x : Int} {s : Nat} {f : Nat → Int} : ∀ {l : List (Nat × (Nat → Int))} {h : Nat}, newest x h (l ++ [(s, f)]) = if x = (s : Int) then some (h + l.length) else newest x h l
  | [], h => by
    show (if (s : Int) = x then some h else none) = _
    by_cases hx : x = (s : Int)
    · rw [if_pos hx, if_pos hx.symm]; rfl
    · rw [if_neg hx, if_neg (fun h => hx h.symm)]; rfl
  | p :: l, h => by
    rw [List.cons_append]
    unfold newest
    rw [newest_push (l := l) (h := h + 1)]
    by_cases hx : x = (s : Int)
    · rw [if_pos hx, if_pos hx, List.length_cons]
      show some _ = some _
      congr 1; omega
    · rw [if_neg hx, if_neg hx]
theorem settle_newest (s j : Nat) : ∀ {l : List (Nat × (Nat → Int))} {h : Nat} {pc : Nat → Nat → Int}, settle pc l s j = match newest (s : Int) h l with
    | none => pc s j
    | some q => if j < 512 then (l.getD (q - h) (0, fun _ => 0)).2 j else pc s j
  | [], h, pc => rfl
  | p :: l, h, pc => by
    show settle (stP pc p.1 512 p.2) l s j = _
    rw [settle_newest s j (l := l) (h := h + 1)]
    have e : newest (s : Int) h (p :: l) = match newest (s : Int) (h + 1) l with
      | some q => some q
      | none => if (p.1 : Int) = (s : Int) then some h else none := rfl
    rw [e]
    cases hn : newest (s : Int) (h + 1) l with
    | none =>
      dsimp only
      unfold stP
      by_cases hp : p.1 = s
      · rw [if_pos (show (p.1 : Int) = (s : Int) by rw [hp])]
        dsimp only
        rw [Nat.sub_self]
        by_cases hj : j < 512
        · rw [if_pos ⟨hp.symm, hj⟩, if_pos hj]; rfl
        · rw [if_neg (fun h => hj h.2), if_neg hj]
      · rw [if_neg (show ¬ (p.1 : Int) = (s : Int) by omega), if_neg (fun h => hp h.1.symm)]
    | some q =>
      dsimp only
      obtain ⟨a, b, p', c, d⟩ := newest_spec hn
      by_cases hj : j < 512
      · rw [if_pos hj, if_pos hj, show q - h = (q - (h + 1)) + 1 by omega]; rfl
      · rw [if_neg hj, if_neg hj]
        unfold stP
        rw [if_neg (fun h => hj h.2)]

def kOf (tb : Int) : Nat := if tb < 0 then 0 else if 512 < tb then 512 else tb.toNat
def crashPc (keep : List Int) (tear : Int) (k : Nat) : Nat → (Nat → Nat → Int) → List (Nat × (Nat → Int)) → (Nat → Nat → Int)
  | _, pc, [] => pc
  | i, pc, p :: l => crashPc keep tear k (i + 1) (if (i : Int) = tear then stP pc p.1 k p.2 else if keepB keep i then stP pc p.1 512 p.2 else pc) l
def disP (P : PD) : PD := { P with armed := false, fuse := 0, keep := [], tear := 0, tb := 0 }
def crashP (P : PD) (keep : List Int) (tear tb : Int) : PD := { disP P with pc := crashPc keep tear (kOf tb) 0 P.pc P.pend, pend := [], down := true }
def destP (P : PD) : PD := if P.pend.length = P.lim then { P with pc := stP P.pc (P.pend.getD 0 (0, fun _ => 0)).1 512 (P.pend.getD 0 (0, fun _ => 0)).2, pend := P.pend.drop 1 } else P
def pushP (P : PD) (s : Nat) (f : Nat → Int) : PD := { P with pend := P.pend ++ [(s, f)], wr := P.wr + 1 }
def fuseP (P : PD) : PD × Bool := if P.armed then (if P.fuse - 1 = 0 then (crashP { P with fuse := P.fuse - 1 } P.keep P.tear P.tb, true) else ({ P with fuse := P.fuse - 1 }, false)) else (P, false)
def cutB (bs : List Int) (i : Nat) (j : Nat) : Int := bs.getD (i * 512 + j) 0
def write1 (P : PD) (s : Nat) (f : Nat → Int) : PD × Bool := fuseP (pushP (destP P) s f)
def writeL (bs : List Int) (s : Nat) : Nat → Nat → PD → PD × Int
  | i, 0, P => (P, 0)
  | i, n + 1, P => if (write1 P (s + i) (cutB bs i)).2 then ((write1 P (s + i) (cutB bs i)).1, 3) else writeL bs s (i + 1) n (write1 P (s + i) (cutB bs i)).1
def writeP (P : PD) (s : Int) (bs : List Int) : PD × Int :=
  if P.down then (P, 3) else if spanC P.sec s bs.length ≠ 0 then (P, spanC P.sec s bs.length) else writeL bs s.toNat 0 (bs.length / 512) P
def syncP (P : PD) : PD × Int := if P.down then (P, 3) else ({ P with pc := settle P.pc P.pend, pend := [] }, 0)
def crashCP (P : PD) (keep : List Int) (tear tb : Int) : PD × Int := if P.down then (P, 3) else (crashP P keep tear tb, 0)
def armP (P : PD) (after : Int) (keep : List Int) (tear tb : Int) : PD × Int :=
  if P.down then (P, 3) else if after < 1 then (P, 1) else ({ P with armed := true, fuse := after, keep := keep, tear := tear, tb := tb }, 0)
def disarmP (P : PD) : PD × Int := if P.down then (P, 3) else (disP P, 0)
def reopenP (P : PD) : PD × Int := if P.down then ({ P with down := false }, 0) else (P, 4)
def readC (P : PD) (s : Int) (n : Nat) : Int := if P.down then 3 else spanC P.sec s n
def newP (sec lim : Nat) : PD := ⟨sec, lim, fun _ _ => 0, [], false, false, 0, [], 0, 0, 0⟩
def orD (x : Int) (d : Nat) : Int := if x = 0 then (d : Int) else x
def fmtP (count cache : Int) : Option PD := if orD count 4096 < 0 ∨ 65536 < orD count 4096 then none else if orD cache 8192 < 0 ∨ 65536 < orD cache 8192 then none else some (newP (orD count 4096).toNat (orD cache 8192).toNat)

/-- The memory's disk is the plain disk. -/
structure Rep (D : DK) (P : PD) : Prop where
  sec : D.sectors = P.sec
  lim : D.limit = P.lim
  s1 : 1 ≤ P.sec
  s2 : P.sec ≤ 65536
  l1 : 1 ≤ P.lim
  l2 : P.lim ≤ 65536
  pc : D.pc = P.pc
  tl : D.tl = P.wr
  hd : D.hd + P.pend.length = D.tl
  ple : P.pend.length ≤ P.lim
  sx : D.sx 1 = (P.wr : Int)
  wr : P.wr ≤ 1000000000000
  at_ : ∀ i p, P.pend[i]? = some p → D.ss ((D.hd + i) % D.limit) = (p.1 : Int) ∧ (∀ j, j < 512 → D.sd ((D.hd + i) % D.limit) j = p.2 j) ∧ D.sb ((D.hd + i) % D.limit / 32) ≠ none
  N : ∀ s, D.N s = newest s D.hd P.pend
  psec : ∀ p, p ∈ P.pend → p.1 < P.sec ∧ ∀ j, 0 ≤ p.2 j ∧ p.2 j < 256
  pcr : ∀ s j, 0 ≤ P.pc s j ∧ P.pc s j < 256
  down : D.down = P.down
  armed : D.armed = P.armed
  fuse : D.fuse = P.fuse
  fz : P.armed = true → 0 ≤ P.fuse + (P.wr : Int) ∧ P.fuse ≤ 9223372036854775807
  kv : BR 5 D.kv P.keep D.XK
  kl : P.keep.length ≤ 65536
  tear : D.tear = P.tear
  tb : D.tb = P.tb
  ze : ZE D
  zs : ZS D

theorem mod_ne {a b n : Nat} (h1 : a < b) (h2 : b < a + n) : a % n ≠ b % n := by
  intro h
  have ha := Nat.div_add_mod a n
  have hb := Nat.div_add_mod b n
  have hq : a / n < b / n ∨ b / n ≤ a / n := Nat.lt_or_ge _ _
  rcases hq with hq | hq
  · have : n * (a / n + 1) ≤ n * (b / n) := Nat.mul_le_mul_left _ hq
    rw [Nat.mul_add, Nat.mul_one] at this
    omega
  · have : n * (b / n) ≤ n * (a / n) := Nat.mul_le_mul_left _ hq
    omega

theorem stP_range {pc : Nat → Nat → Int} {s k : Nat} {f : Nat → Int} (h1 : ∀ s j, 0 ≤ pc s j ∧ pc s j < 256) (h2 : ∀ j, 0 ≤ f j ∧ f j < 256) (t j : Nat) : 0 ≤ stP pc s k f t j ∧ stP pc s k f t j < 256 := by
  unfold stP
  split
  · exact h2 j
  · exact h1 t j

theorem Rep.store {P : PD} (h : Rep D P) {s k : Nat} {f : Nat → Int} {eb' : Nat → Option Nat} (hf : ∀ j, 0 ≤ f j ∧ f j < 256) (hz : ZE { D with eb := eb', pc := stP D.pc s k f }) : Rep { D with eb := eb', pc := stP D.pc s k f } { P with pc := stP P.pc s k f } :=
  { h with
    pc := by show stP D.pc s k f = _; rw [h.pc]
    pcr := stP_range h.pcr hf
    ze := hz }

theorem Rep.pop {P : PD} (h : Rep D P) {p : Nat × (Nat → Int)} {l : List (Nat × (Nat → Int))} (hp : P.pend = p :: l) : Rep (popD D) { P with pend := l } := by
  have h0 := h.at_ 0 p (by rw [hp]; rfl)
  rw [Nat.add_zero] at h0
  have hhd := h.hd
  rw [hp, List.length_cons] at hhd
  exact
  { h with
    hd := by show D.hd + 1 + l.length = D.tl; omega
    ple := by have := h.ple; rw [hp, List.length_cons] at this; show l.length ≤ P.lim; omega
    at_ := fun i q hq => by
      have := h.at_ (i + 1) q (by rw [hp]; exact hq)
      rw [show D.hd + (i + 1) = D.hd + 1 + i by omega] at this
      exact this
    N := fun s => by
      show popN D s = newest s (D.hd + 1) l
      unfold popN
      rw [h0.1]
      have hN := h.N
      rw [hp] at hN
      have eN : ∀ s, D.N s = match newest s (D.hd + 1) l with
        | some q => some q
        | none => if (p.1 : Int) = s then some D.hd else none := fun s => hN s
      by_cases hs : s = (p.1 : Int)
      · rw [hs]
        cases hn : newest (p.1 : Int) (D.hd + 1) l with
        | none =>
          have e : D.N (p.1 : Int) = some D.hd := by rw [eN, hn]; exact if_pos rfl
          rw [e]
          simp
        | some q =>
          have e : D.N (p.1 : Int) = some q := by rw [eN, hn]
          have := (newest_spec hn).1
          rw [e, if_neg (by show q ≠ D.hd; omega), e]
      · have e : D.N s = newest s (D.hd + 1) l := by
          rw [eN]
          cases newest s (D.hd + 1) l with
          | none => exact if_neg (fun h => hs h.symm)
          | some q => rfl
        split
        · show (if s = (p.1 : Int) then none else D.N s) = _
          rw [if_neg hs, e]
        · exact e
    psec := fun q hq => h.psec q (by rw [hp]; exact List.mem_cons_of_mem _ hq) }

theorem Rep.push {P : PD} (h : Rep D P) {s : Nat} {f : Nat → Int} {sb' : Nat → Option Nat} {sx' : Nat → Int} (hs : s < P.sec) (hf : ∀ j, 0 ≤ f j ∧ f j < 256) (hlt : P.pend.length < P.lim) (hw : P.wr + 1 ≤ 1000000000000)
    (hz : ZS (pushD D sb' s f)) (h1 : ∀ i, D.sb i ≠ none → sb' i ≠ none) (h2 : sb' (D.tl % D.limit / 32) ≠ none) (hsx : sx' 1 = ((P.wr + 1 : Nat) : Int)) : Rep { pushD D sb' s f with sx := sx' } (pushP P s f) := by
  have hhd := h.hd
  have hlim := h.lim
  exact
  { h with
    tl := by show D.tl + 1 = P.wr + 1; rw [h.tl]
    hd := by show D.hd + (P.pend ++ [(s, f)]).length = D.tl + 1; rw [List.length_append]; simp; omega
    ple := by show (P.pend ++ [(s, f)]).length ≤ P.lim; rw [List.length_append]; simp; omega
    sx := hsx
    wr := hw
    fz := fun ha => by have := h.fz ha; show 0 ≤ P.fuse + ((P.wr + 1 : Nat) : Int) ∧ P.fuse ≤ _; omega
    at_ := fun i q hq => by
      show (if (D.hd + i) % D.limit = D.tl % D.limit then (s : Int) else D.ss ((D.hd + i) % D.limit)) = (q.1 : Int) ∧ (∀ j, j < 512 → (if (D.hd + i) % D.limit = D.tl % D.limit ∧ j < 512 then f j else D.sd ((D.hd + i) % D.limit) j) = q.2 j) ∧ sb' ((D.hd + i) % D.limit / 32) ≠ none
      have hq : (P.pend ++ [(s, f)])[i]? = some q := hq
      by_cases hi : i < P.pend.length
      · rw [List.getElem?_append_left hi] at hq
        have hne : (D.hd + i) % D.limit ≠ D.tl % D.limit := mod_ne (by omega) (by omega)
        obtain ⟨a, b, c⟩ := h.at_ i q hq
        exact ⟨by rw [if_neg hne]; exact a, fun j hj => by rw [if_neg (fun h => hne h.1)]; exact b j hj, h1 _ c⟩
      · rw [List.getElem?_append_right (by omega)] at hq
        obtain ⟨hi2, e⟩ : i - P.pend.length = 0 ∧ q = (s, f) := by
          cases hk : i - P.pend.length with
          | zero => rw [hk] at hq; exact ⟨rfl, (Option.some.inj hq).symm⟩
          | succ k => rw [hk] at hq; simp at hq
        subst e
        rw [show D.hd + i = D.tl by omega]
        exact ⟨if_pos rfl, fun j hj => if_pos ⟨rfl, hj⟩, h2⟩
    N := fun x => by
      show (if x = (s : Int) then some D.tl else D.N x) = newest x D.hd (P.pend ++ [(s, f)])
      rw [newest_push, h.N, hhd]
    psec := fun q hq => by
      rcases List.mem_append.1 hq with hq | hq
      · exact h.psec q hq
      · rw [List.mem_singleton.1 hq]; exact ⟨hs, hf⟩
    zs := hz }

theorem Rep.drop {P : PD} (h : Rep D P) : Rep (dropD D) { P with pend := [] } :=
  { h with
    hd := Nat.add_zero _
    ple := Nat.zero_le _
    at_ := fun i p hp => by simp at hp
    N := fun s => rfl
    psec := fun p hp => by simp at hp }

theorem Rep.dis {P : PD} (h : Rep D P) : Rep (disD D) (disP P) :=
  { h with
    armed := rfl
    fuse := rfl
    fz := fun h => by cases h
    kv := BR.nil _
    kl := Nat.zero_le _
    tear := rfl
    tb := rfl }

theorem Rep.sxs {P : PD} (h : Rep D P) {sx' : Nat → Int} (e : sx' 1 = D.sx 1) : Rep { D with sx := sx' } P := { h with sx := by show sx' 1 = _; rw [e, h.sx] }
end Go.Proofs.Qxb6500837aDoor

