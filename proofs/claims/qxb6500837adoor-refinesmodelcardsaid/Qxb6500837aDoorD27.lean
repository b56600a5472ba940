import Derived.Test.Qxb6500837aDoorD25
import Derived.Test.Qxb6500837aDoorE25
set_option linter.unusedVariables false
set_option linter.unusedSimpArgs false
set_option maxRecDepth 20000
namespace Go.Proofs.Qxb6500837aDoor
open Go.RowKit Go.E1 Go.Disk
variable {w0 : World} {L L' l I J K K' : List HI} {w : World} {D : DK} {m : Int} {P Q R : PD} {q : Obj → Prop}

/-! The law's book, plainly. -/
structure SameB (P Q : PD) : Prop where
  pc : P.pc = Q.pc
  pend : P.pend = Q.pend
  sec : P.sec = Q.sec
  lim : P.lim = Q.lim
theorem SameB.refl (P : PD) : SameB P P := ⟨rfl, rfl, rfl, rfl⟩
theorem SameB.trans (h : SameB P Q) (h2 : SameB Q R) : SameB P R := ⟨h.pc.trans h2.pc, h.pend.trans h2.pend, h.sec.trans h2.sec, h.lim.trans h2.lim⟩
theorem SameB.symm (h : SameB P Q) : SameB Q P := ⟨h.pc.symm, h.pend.symm, h.sec.symm, h.lim.symm⟩
structure PWf (P : PD) : Prop where
  s1 : 1 ≤ P.sec
  s2 : P.sec ≤ 65536
  l1 : 1 ≤ P.lim
  l2 : P.lim ≤ 65536
  ple : P.pend.length ≤ P.lim
  psec : ∀ p, p ∈ P.pend → p.1 < P.sec ∧ ∀ j, 0 ≤ p.2 j ∧ p.2 j < 256
  pcr : ∀ s j, 0 ≤ P.pc s j ∧ P.pc s j < 256
theorem Rep.wf (h : Rep D P) : PWf P := ⟨h.s1, h.s2, h.l1, h.l2, h.ple, h.psec, h.pcr⟩

def pw (P : PD) (s : Nat) (f : Nat → Int) : PD := pushP (destP P) s f
def pwL (bs : List Int) (s : Nat) : Nat → Nat → PD → PD
  | _, 0, P => P
  | i, n + 1, P => pwL bs s (i + 1) n (pw P (s + i) (cutB bs i))
theorem pwL_succ {bs : List Int} {s : Nat} : ∀ {n i : Nat} {P : PD}, pwL bs s i (n + 1) P = pw (pwL bs s i n P) (s + i + n) (cutB bs (i + n))
  | 0, i, P => rfl
  | n + 1, i, P => by
    show pwL bs s (i + 1) (n + 1) (pw P (s + i) (cutB bs i)) = pw (pwL bs s (i + 1) n (pw P (s + i) (cutB bs i))) (s + i + (n + 1)) (cutB bs (i + (n + 1)))
    rw [pwL_succ (n := n) (i := i + 1), show s + (i + 1) + n = s + i + (n + 1) by omega, show i + 1 + n = i + (n + 1) by omega]

theorem destP_same (h : SameB P Q) : SameB (destP P) (destP Q) := by
  unfold destP
  rw [h.pend, h.lim]
  split
  · exact ⟨by show stP P.pc _ _ _ = stP Q.pc _ _ _; rw [h.pc], by show List.drop 1 Q.pend = List.drop 1 Q.pend; rfl, h.sec, rfl⟩
  · exact h
theorem pw_same {s : Nat} {f : Nat → Int} (h : SameB P Q) : SameB (pw P s f) (pw Q s f) := by
  have a := destP_same h
  exact ⟨a.pc, by show (destP P).pend ++ _ = (destP Q).pend ++ _; rw [a.pend], a.sec, a.lim⟩
theorem destP_keep : (destP P).keep = P.keep ∧ (destP P).tear = P.tear ∧ (destP P).tb = P.tb ∧ (destP P).down = P.down := by unfold destP; split <;> exact ⟨rfl, rfl, rfl, rfl⟩

theorem write1_book {s : Nat} {f : Nat → Int} (h : SameB P Q) :
    ((write1 P s f).2 = false ∧ SameB (write1 P s f).1 (pw Q s f) ∧ (write1 P s f).1.wr = P.wr + 1 ∧ (write1 P s f).1.armed = P.armed ∧ (write1 P s f).1.keep = P.keep ∧ (write1 P s f).1.tear = P.tear ∧ (write1 P s f).1.tb = P.tb ∧ (write1 P s f).1.down = P.down) ∨
    ((write1 P s f).2 = true ∧ P.armed = true ∧ (write1 P s f).1.wr = P.wr + 1 ∧ ∃ R, SameB R (pw Q s f) ∧ (write1 P s f).1 = crashP R P.keep P.tear P.tb) := by
  have hw := write1_wr (P := P) (s := s) (f := f)
  have hp := pw_same (s := s) (f := f) h
  obtain ⟨k1, k2, k3, k4⟩ := destP_keep (P := P)
  have e1 : (pushP (destP P) s f).armed = P.armed := destP_armed
  have e2 : (pushP (destP P) s f).keep = P.keep := k1
  have e3 : (pushP (destP P) s f).tear = P.tear := k2
  have e4 : (pushP (destP P) s f).tb = P.tb := k3
  have e5 : (pushP (destP P) s f).down = P.down := k4
  unfold write1 fuseP at hw ⊢
  split
  · rename_i ha
    rw [if_pos ha] at hw
    split
    · rename_i hf
      rw [if_pos hf] at hw
      exact .inr ⟨rfl, e1.symm.trans ha, hw, { pushP (destP P) s f with fuse := (pushP (destP P) s f).fuse - 1 }, ⟨hp.pc, hp.pend, hp.sec, hp.lim⟩, by rw [← e2, ← e3, ← e4]⟩
    · rename_i hf
      rw [if_neg hf] at hw
      exact .inl ⟨rfl, ⟨hp.pc, hp.pend, hp.sec, hp.lim⟩, hw, e1, e2, e3, e4, e5⟩
  · rename_i ha
    rw [if_neg ha] at hw
    exact .inl ⟨rfl, hp, hw, e1, e2, e3, e4, e5⟩

theorem writeL_book {bs : List Int} {s : Nat} : ∀ {n i : Nat} {P Q : PD}, SameB P Q →
    ((writeL bs s i n P).2 = 0 ∧ SameB (writeL bs s i n P).1 (pwL bs s i n Q) ∧ (writeL bs s i n P).1.wr = P.wr + n ∧ (writeL bs s i n P).1.armed = P.armed ∧ (writeL bs s i n P).1.keep = P.keep ∧ (writeL bs s i n P).1.tear = P.tear ∧ (writeL bs s i n P).1.tb = P.tb ∧ (writeL bs s i n P).1.down = P.down) ∨
    ((writeL bs s i n P).2 = 3 ∧ P.armed = true ∧ ∃ k, k < n ∧ (writeL bs s i n P).1.wr = P.wr + (k + 1) ∧ ∃ R, SameB R (pwL bs s i (k + 1) Q) ∧ (writeL bs s i n P).1 = crashP R P.keep P.tear P.tb)
  | 0, i, P, Q, h => .inl ⟨rfl, h, rfl, rfl, rfl, rfl, rfl, rfl⟩
  | n + 1, i, P, Q, h => by
    have e : writeL bs s i (n + 1) P = if (write1 P (s + i) (cutB bs i)).2 then ((write1 P (s + i) (cutB bs i)).1, 3) else writeL bs s (i + 1) n (write1 P (s + i) (cutB bs i)).1 := rfl
    rw [e]
    rcases write1_book (s := s + i) (f := cutB bs i) h with ⟨a1, a2, a3, a4, a5, a6, a7, a8⟩ | ⟨a1, a2, a3, R, a4, a5⟩
    · rw [if_neg (by rw [a1]; decide)]
      rcases writeL_book (bs := bs) (s := s) (n := n) (i := i + 1) a2 with ⟨b1, b2, b3, b4, b5, b6, b7, b8⟩ | ⟨b1, b2, k, b3, b4, R, b5, b6⟩
      · exact .inl ⟨b1, b2, by omega, b4.trans a4, b5.trans a5, b6.trans a6, b7.trans a7, b8.trans a8⟩
      · exact .inr ⟨b1, a4.symm.trans b2, k + 1, by omega, by omega, R, b5, by rw [← a5, ← a6, ← a7]; exact b6⟩
    · rw [if_pos a1]
      exact .inr ⟨rfl, a2, 0, by omega, a3, R, a4, a5⟩

theorem pw_wf {s : Nat} {f : Nat → Int} (h : PWf P) (hs : s < P.sec) (hf : ∀ j, 0 ≤ f j ∧ f j < 256) : PWf (pw P s f) := by
  have hd : PWf (destP P) ∧ (destP P).pend.length < (destP P).lim := by
    have h1 := h.l1; have h2 := h.ple
    unfold destP
    split
    · rename_i hl
      have h0 : (P.pend.getD 0 (0, fun _ => 0)) ∈ P.pend := by
        cases hp : P.pend with
        | nil => rw [hp] at hl; simp at hl; omega
        | cons p l => exact List.mem_cons_self
      exact ⟨⟨h.s1, h.s2, h.l1, h.l2, by show (P.pend.drop 1).length ≤ P.lim; rw [List.length_drop]; omega, fun p hp => h.psec p (List.mem_of_mem_drop hp), stP_range h.pcr (h.psec _ h0).2⟩, by show (P.pend.drop 1).length < P.lim; rw [List.length_drop]; omega⟩
    · exact ⟨h, by omega⟩
  have hl : (destP P).lim = P.lim := destP_lim
  exact ⟨hd.1.s1, hd.1.s2, hd.1.l1, hd.1.l2, by show ((destP P).pend ++ [(s, f)]).length ≤ (destP P).lim; rw [List.length_append]; have := hd.2; simp; omega, fun p hp => by
    rcases List.mem_append.1 hp with hp | hp
    · exact hd.1.psec p hp
    · rw [List.mem_singleton.1 hp]; exact ⟨by show s < (destP P).sec; rw [destP_sec]; exact hs, hf⟩, hd.1.pcr⟩
theorem pw_sec {s : Nat} {f : Nat → Int} : (pw P s f).sec = P.sec := destP_sec
theorem pwL_wf {bs : List Int} {s : Nat} (hb : ∀ x, x ∈ bs → 0 ≤ x ∧ x < 256) : ∀ {n i : Nat} {P : PD}, PWf P → s + i + n ≤ P.sec → PWf (pwL bs s i n P) ∧ (pwL bs s i n P).sec = P.sec
  | 0, i, P, h, _ => ⟨h, rfl⟩
  | n + 1, i, P, h, hs => by
    have := pwL_wf (bs := bs) (s := s) hb (n := n) (i := i + 1) (pw_wf (s := s + i) (f := cutB bs i) h (by omega) (cutB_range hb i)) (by rw [pw_sec]; omega)
    exact ⟨this.1, this.2.trans pw_sec⟩
theorem PWf.same (h : PWf P) (hs : SameB Q P) : PWf Q := ⟨by rw [hs.sec]; exact h.s1, by rw [hs.sec]; exact h.s2, by rw [hs.lim]; exact h.l1, by rw [hs.lim]; exact h.l2, by rw [hs.pend, hs.lim]; exact h.ple, by rw [hs.pend, hs.sec]; exact h.psec, by rw [hs.pc]; exact h.pcr⟩

/-- What a write that was let in does to the book. -/
theorem step_write {o : OP} (hk : o.kind = 1) (hd : P.down = false) (hp : PWf P) (hb : ∀ x, x ∈ o.dat.bs → 0 ≤ x ∧ x < 256) : ∃ q R, q ≤ o.dat.bs.length / 512 ∧ (0 < q → 0 ≤ o.sct ∧ o.sct + q ≤ P.sec) ∧ SameB R (pwL o.dat.bs o.sct.toNat 0 q P) ∧ PWf R ∧ R.sec = P.sec ∧ (stepP P o).1.wr = P.wr + q ∧
    (((stepP P o).1.down = false ∧ SameB (stepP P o).1 R ∧ (stepP P o).1.armed = P.armed ∧ (stepP P o).1.keep = P.keep ∧ (stepP P o).1.tear = P.tear ∧ (stepP P o).1.tb = P.tb) ∨ ((stepP P o).1 = crashP R P.keep P.tear P.tb ∧ P.armed = true)) := by
  have e : stepP P o = writeP P o.sct o.dat.bs := by unfold stepP; simp [hk]
  rw [e]
  unfold writeP
  rw [hd, if_neg (by decide)]
  split
  · exact ⟨0, P, Nat.zero_le _, fun h => by omega, SameB.refl _, hp, rfl, rfl, .inl ⟨hd, SameB.refl _, rfl, rfl, rfl, rfl⟩⟩
  · rename_i hs
    have hs : spanC P.sec o.sct o.dat.bs.length = 0 := by
      cases Int.decEq (spanC P.sec o.sct o.dat.bs.length) 0 with
      | isTrue h => exact h
      | isFalse h => exact absurd h hs
    have hr : 0 ≤ o.sct ∧ o.sct + (o.dat.bs.length / 512 : Nat) ≤ P.sec := by
      unfold spanC at hs
      split at hs
      · cases hs
      · split at hs
        · cases hs
        · omega
    rcases writeL_book (bs := o.dat.bs) (s := o.sct.toNat) (n := o.dat.bs.length / 512) (i := 0) (SameB.refl P) with ⟨a1, a2, a3, a4, a5, a6, a7, a8⟩ | ⟨a1, a2, k, a3, a4, R, a5, a6⟩
    · have hw := pwL_wf (s := o.sct.toNat) hb (n := o.dat.bs.length / 512) (i := 0) hp (by omega)
      exact ⟨_, _, Nat.le_refl _, fun _ => hr, SameB.refl _, hw.1, hw.2, a3, .inl ⟨a8.trans hd, a2, a4, a5, a6, a7⟩⟩
    · have hw := pwL_wf (s := o.sct.toNat) hb (n := k + 1) (i := 0) hp (by omega)
      exact ⟨k + 1, R, by omega, fun _ => ⟨hr.1, by omega⟩, a5, hw.1.same a5, a5.sec.trans hw.2, a4, .inr ⟨a6, a2⟩⟩

/-- A step of another kind. -/
theorem step_other {o : OP} (hk : o.kind ≠ 1) (hf : ¬ (o.kind = 0 ∧ (stepP P o).2 = 0)) : (stepP P o).1.wr = P.wr ∧
    ((o.kind = 3 ∧ (stepP P o).2 = 0 ∧ P.down = false ∧ (stepP P o).1 = { P with pc := settle P.pc P.pend, pend := [] }) ∨
     (o.kind = 4 ∧ P.down = false ∧ (stepP P o).1 = crashP P o.kp.bs o.tear o.tb) ∨
     (¬ (o.kind = 3 ∧ (stepP P o).2 = 0) ∧ SameB (stepP P o).1 P ∧ ((stepP P o).1.down = true → P.down = true) ∧
       ((o.kind = 5 ∧ (stepP P o).2 = 0 ∧ (stepP P o).1.keep = o.kp.bs ∧ (stepP P o).1.tear = o.tear ∧ (stepP P o).1.tb = o.tb) ∨
        (¬ (o.kind = 5 ∧ (stepP P o).2 = 0) ∧ ((stepP P o).1.armed = true → P.armed = true ∧ (stepP P o).1.keep = P.keep ∧ (stepP P o).1.tear = P.tear ∧ (stepP P o).1.tb = P.tb))))) := by
  have same : ∀ c : Int, ¬ (o.kind = 3 ∧ c = 0) → ¬ (o.kind = 5 ∧ c = 0) → P.wr = P.wr ∧ ((o.kind = 3 ∧ c = 0 ∧ P.down = false ∧ P = { P with pc := settle P.pc P.pend, pend := [] }) ∨ (o.kind = 4 ∧ P.down = false ∧ P = crashP P o.kp.bs o.tear o.tb) ∨ (¬ (o.kind = 3 ∧ c = 0) ∧ SameB P P ∧ (P.down = true → P.down = true) ∧ ((o.kind = 5 ∧ c = 0 ∧ P.keep = o.kp.bs ∧ P.tear = o.tear ∧ P.tb = o.tb) ∨ (¬ (o.kind = 5 ∧ c = 0) ∧ (P.armed = true → P.armed = true ∧ P.keep = P.keep ∧ P.tear = P.tear ∧ P.tb = P.tb))))) := fun c h3 h5 => ⟨rfl, .inr (.inr ⟨h3, SameB.refl _, fun h => h, .inr ⟨h5, fun h => ⟨h, rfl, rfl, rfl⟩⟩⟩)⟩
  unfold stepP at hf ⊢
  split
  · rename_i h0
    rw [if_pos h0] at hf
    unfold fmtS at hf ⊢
    split
    · exact same 1 (by omega) (by omega)
    · rename_i P' h; rw [h] at hf; exact absurd ⟨h0, rfl⟩ hf
  rename_i h0
  split
  · exact same _ (by omega) (by omega)
  rename_i h2
  split
  · exact same _ (by omega) (by omega)
  rename_i h8
  split
  · rename_i h3
    unfold syncP
    by_cases hd : P.down = true
    · rw [if_pos hd]; exact same 3 (by omega) (by omega)
    · rw [if_neg hd]; exact ⟨rfl, .inl ⟨h3, rfl, by simpa using hd, rfl⟩⟩
  rename_i h3
  split
  · rename_i h4
    unfold crashCP
    by_cases hd : P.down = true
    · rw [if_pos hd]; exact same 3 (by omega) (by omega)
    · rw [if_neg hd]; exact ⟨rfl, .inr (.inl ⟨h4, by simpa using hd, rfl⟩)⟩
  rename_i h4
  split
  · rename_i h5
    unfold armP
    split
    · exact same 3 (by omega) (by omega)
    · rename_i hd
      split
      · exact same 1 (by omega) (by omega)
      · exact ⟨rfl, .inr (.inr ⟨fun h => h3 h.1, ⟨rfl, rfl, rfl, rfl⟩, fun h => h, .inl ⟨h5, rfl, rfl, rfl, rfl⟩⟩)⟩
  rename_i h5
  split
  · unfold disarmP
    split
    · exact same 3 (by omega) (by omega)
    · exact ⟨rfl, .inr (.inr ⟨fun h => h3 h.1, ⟨rfl, rfl, rfl, rfl⟩, fun h => h, .inr ⟨fun h => h5 h.1, fun h => by cases h⟩⟩)⟩
  rename_i h6
  split
  · unfold reopenP
    split
    · exact ⟨rfl, .inr (.inr ⟨fun h => h3 h.1, ⟨rfl, rfl, rfl, rfl⟩, (fun h => by cases h), .inr ⟨fun h => h5 h.1, fun h => ⟨h, rfl, rfl, rfl⟩⟩⟩)⟩
    · exact same 4 (by omega) (by omega)
  · exact same 1 (by omega) (by omega)

/-! The book in memory. -/
structure Bk (w0 : World) (K : List HI) (sec : Nat) (pc : Nat → Nat → Int) (pend : List (Nat × (Nat → Int))) (NS : Int → Option Value) (f : Nat → Value) : Prop where
  syn : ∀ s : Nat, s < sec → ∀ v, NS (s : Int) = some v → Sees w0 K v (bytesOf 512 (pc s))
  syz : ∀ s : Nat, s < sec → NS (s : Int) = none → ∀ j, j < 512 → pc s j = 0
  wt : ∀ i p, pend[i]? = some p → f (i * 2) = .int .i64 (p.1 : Nat) ∧ Sees w0 K (f (i * 2 + 1)) (bytesOf 512 p.2)
variable {sec : Nat} {pc : Nat → Nat → Int} {pend : List (Nat × (Nat → Int))} {NS : Int → Option Value} {f f' : Nat → Value}
theorem Bk.more (h : Bk w0 K sec pc pend NS f) (hs : K ⊆ K') : Bk w0 K' sec pc pend NS f := ⟨fun s hs' v hv => (h.syn s hs' v hv).mono hs, h.syz, fun i p hp => ⟨(h.wt i p hp).1, (h.wt i p hp).2.mono hs⟩⟩
theorem Bk.set (h : Bk w0 K sec pc pend NS f) {s : Nat} {g : Nat → Int} {v : Value} (hv : Sees w0 K v (bytesOf 512 g)) (pend' : List (Nat × (Nat → Int))) (hw : ∀ i p, pend'[i]? = some p → f' (i * 2) = .int .i64 (p.1 : Nat) ∧ Sees w0 K (f' (i * 2 + 1)) (bytesOf 512 p.2)) : Bk w0 K sec (stP pc s 512 g) pend' (setN NS (s : Int) v) f' := by
  refine ⟨fun t ht u hu => ?_, fun t ht hn j hj => ?_, hw⟩
  · unfold setN at hu
    split at hu
    · rename_i e
      cases hu
      obtain rfl : t = s := by omega
      rw [bytesOf_congr (g := g) fun j hj => by unfold stP; rw [if_pos ⟨rfl, hj⟩]]; exact hv
    · rename_i e
      rw [bytesOf_congr (g := pc t) fun j hj => by unfold stP; rw [if_neg (fun h => e (by rw [h.1]))]]; exact h.syn t ht u hu
  · unfold setN at hn
    split at hn
    · cases hn
    · rename_i e
      unfold stP
      rw [if_neg (fun h => e (by rw [h.1]))]
      exact h.syz t ht hn j hj
theorem Bk.dest {p : Nat × (Nat → Int)} {l : List (Nat × (Nat → Int))} (h : Bk w0 K sec pc (p :: l) NS f) : Bk w0 K sec (stP pc p.1 512 p.2) l (setN NS (p.1 : Int) (f 1)) (fun j => f (2 + j)) :=
  h.set (h.wt 0 p rfl).2 l fun i q hq => by
    have := h.wt (i + 1) q hq
    rw [show (i + 1) * 2 = 2 + i * 2 by omega, show 2 + i * 2 + 1 = 2 + (i * 2 + 1) by omega] at this
    exact this
theorem Bk.push (h : Bk w0 K sec pc pend NS f) {s : Nat} {g : Nat → Int} {v : Value} (hv : Sees w0 K v (bytesOf 512 g)) (h1 : ∀ i, i < pend.length * 2 → f' i = f i) (h2 : f' (pend.length * 2) = .int .i64 (s : Nat)) (h3 : f' (pend.length * 2 + 1) = v) : Bk w0 K sec pc (pend ++ [(s, g)]) NS f' :=
  ⟨h.syn, h.syz, fun i p hp => by
    by_cases hi : i < pend.length
    · rw [List.getElem?_append_left hi] at hp
      rw [h1 _ (by omega), h1 _ (by omega)]
      exact h.wt i p hp
    · rw [List.getElem?_append_right (by omega)] at hp
      cases hk : i - pend.length with
      | zero =>
        rw [hk] at hp
        cases hp
        obtain rfl : i = pend.length := by omega
        exact ⟨h2, by rw [h3]; exact hv⟩
      | succ k => rw [hk] at hp; simp at hp⟩
theorem Bk.same (h : Bk w0 K P.sec P.pc P.pend NS f) (hs : SameB Q P) : Bk w0 K Q.sec Q.pc Q.pend NS f := by rw [hs.sec, hs.pc, hs.pend]; exact h
end Go.Proofs.Qxb6500837aDoor

