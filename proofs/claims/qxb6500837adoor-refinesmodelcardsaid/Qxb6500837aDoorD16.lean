import Derived.Test.Qxb6500837aDoorD15
set_option linter.unusedVariables false
set_option linter.unusedSimpArgs false
set_option maxRecDepth 20000
namespace Go.Proofs.Qxb6500837aDoor
open Go.RowKit Go.E1 Go.Disk
variable {w0 : World} {L L' l : List HI} {w : World} {D : DK} {m : Int} {P : PD} {q : Obj → Prop}

theorem destP_armed : (destP P).armed = P.armed := by unfold destP; split <;> rfl
theorem destP_fuse : (destP P).fuse = P.fuse := by unfold destP; split <;> rfl
theorem destP_down : (destP P).down = P.down := by unfold destP; split <;> rfl

theorem write1_arm {s : Nat} {f : Nat → Int} (hf : P.armed = true → 1 ≤ P.fuse) :
    ((write1 P s f).2 = true ∧ P.armed = true ∧ P.fuse = 1 ∧ (write1 P s f).1.down = true ∧ (write1 P s f).1.armed = false) ∨
    ((write1 P s f).2 = false ∧ (write1 P s f).1.down = P.down ∧ (write1 P s f).1.armed = P.armed ∧ (P.armed = true → (write1 P s f).1.fuse = P.fuse - 1 ∧ 1 ≤ (write1 P s f).1.fuse)) := by
  have e1 : (pushP (destP P) s f).armed = P.armed := destP_armed
  have e2 : (pushP (destP P) s f).fuse = P.fuse := destP_fuse
  have e3 : (pushP (destP P) s f).down = P.down := destP_down
  unfold write1 fuseP
  rw [e1, e2]
  by_cases ha : P.armed = true
  · rw [if_pos ha]
    by_cases h0 : P.fuse - 1 = 0
    · rw [if_pos h0]; exact .inl ⟨rfl, ha, by omega, rfl, rfl⟩
    · rw [if_neg h0]; exact .inr ⟨rfl, e3, rfl, fun _ => ⟨rfl, by have := hf ha; show 1 ≤ P.fuse - 1; omega⟩⟩
  · rw [if_neg ha]; exact .inr ⟨rfl, e3, e1, fun h => absurd h ha⟩

theorem writeL_arm {bs : List Int} {s : Nat} : ∀ {n i : Nat} {P : PD}, (P.armed = true → 1 ≤ P.fuse) →
    ((writeL bs s i n P).2 = 3 ∧ P.armed = true ∧ (writeL bs s i n P).1.down = true ∧ (writeL bs s i n P).1.armed = false ∧ ((writeL bs s i n P).1.wr : Int) = P.wr + P.fuse) ∨
    ((writeL bs s i n P).2 = 0 ∧ (writeL bs s i n P).1.down = P.down ∧ (writeL bs s i n P).1.armed = P.armed ∧ (P.armed = true → 1 ≤ (writeL bs s i n P).1.fuse ∧ (writeL bs s i n P).1.fuse + ((writeL bs s i n P).1.wr : Int) = P.fuse + P.wr))
  | 0, i, P, hf => .inr ⟨rfl, rfl, rfl, fun h => ⟨hf h, rfl⟩⟩
  | n + 1, i, P, hf => by
    have e : writeL bs s i (n + 1) P = if (write1 P (s + i) (cutB bs i)).2 then ((write1 P (s + i) (cutB bs i)).1, 3) else writeL bs s (i + 1) n (write1 P (s + i) (cutB bs i)).1 := rfl
    have hw := write1_wr (P := P) (s := s + i) (f := cutB bs i)
    rw [e]
    rcases write1_arm (P := P) (s := s + i) (f := cutB bs i) hf with ⟨h1, h2, h3, h4, h5⟩ | ⟨h1, h2, h3, h4⟩
    · rw [if_pos h1]
      exact .inl ⟨rfl, h2, h4, h5, by show ((write1 P (s + i) (cutB bs i)).1.wr : Int) = _; omega⟩
    · rw [if_neg (by rw [h1]; decide)]
      rcases writeL_arm (bs := bs) (s := s) (n := n) (i := i + 1) (P := (write1 P (s + i) (cutB bs i)).1) (fun h => (h4 (h3 ▸ h)).2) with ⟨g1, g2, g3, g4, g5⟩ | ⟨g1, g2, g3, g4⟩
      · have ha : P.armed = true := h3 ▸ g2
        exact .inl ⟨g1, ha, g3, g4, by have := (h4 ha).1; omega⟩
      · refine .inr ⟨g1, g2.trans h2, g3.trans h3, fun ha => ?_⟩
        have a := h4 ha
        have b := g4 (h3.trans ha)
        exact ⟨b.1, by omega⟩

/-- What a step does to the armed crash. -/
theorem step_arm {o : OP} (hf : P.armed = true → 1 ≤ P.fuse) :
    ((stepP P o).2 = 0 ∧ (o.kind = 0 ∨ o.kind = 4 ∨ o.kind = 6) ∧ (stepP P o).1.armed = false ∧ (o.kind = 4 ∨ (P.down = false → (stepP P o).1.down = false))) ∨
    ((stepP P o).2 = 0 ∧ o.kind = 5 ∧ (stepP P o).1.armed = true ∧ (stepP P o).1.fuse = o.after ∧ 1 ≤ o.after ∧ (stepP P o).1.wr = P.wr ∧ (stepP P o).1.down = false) ∨
    (¬ ((stepP P o).2 = 0 ∧ (o.kind = 0 ∨ o.kind = 4 ∨ o.kind = 6 ∨ o.kind = 5)) ∧
      ((P.down = false ∧ (stepP P o).1.down = true ∧ o.kind ≠ 4 ∧ P.armed = true ∧ (stepP P o).1.armed = false ∧ ((stepP P o).1.wr : Int) = P.wr + P.fuse) ∨
       ((P.down = false → (stepP P o).1.down = false) ∧ (stepP P o).1.armed = P.armed ∧ (P.armed = true → 1 ≤ (stepP P o).1.fuse ∧ (stepP P o).1.fuse + ((stepP P o).1.wr : Int) = P.fuse + P.wr)))) := by
  have same : ∀ (P' : PD), P'.down = P.down → P'.armed = P.armed → P'.fuse = P.fuse → P'.wr = P.wr → ((P.down = false → P'.down = false) ∧ P'.armed = P.armed ∧ (P.armed = true → 1 ≤ P'.fuse ∧ P'.fuse + (P'.wr : Int) = P.fuse + P.wr)) := fun P' h1 h2 h3 h4 => ⟨fun h => h1.trans h, h2, fun h => by rw [h3, h4]; exact ⟨hf h, rfl⟩⟩
  unfold stepP
  split
  · rename_i hk
    unfold fmtS
    split
    · exact .inr (.inr ⟨(fun h => by have h0 := h.1; cases h0), .inr (same _ rfl rfl rfl rfl)⟩)
    · rename_i P' h
      refine .inl ⟨rfl, .inl hk, ?_⟩
      unfold fmtP at h
      split at h
      · cases h
      · split at h
        · cases h
        · cases h; exact ⟨rfl, .inr fun _ => rfl⟩
  rename_i hk0
  split
  · rename_i hk
    have hn : ∀ c : Int, ¬ (c = 0 ∧ (o.kind = 0 ∨ o.kind = 4 ∨ o.kind = 6 ∨ o.kind = 5)) := fun c h => by omega
    unfold writeP
    by_cases hd : P.down = true
    · rw [if_pos hd]; exact .inr (.inr ⟨hn _, .inr (same _ rfl rfl rfl rfl)⟩)
    · rw [if_neg hd]
      split
      · exact .inr (.inr ⟨hn _, .inr (same _ rfl rfl rfl rfl)⟩)
      · rcases writeL_arm (bs := o.dat.bs) (s := o.sct.toNat) (n := o.dat.bs.length / 512) (i := 0) hf with ⟨h1, h2, h3, h4, h5⟩ | ⟨h1, h2, h3, h4⟩
        · exact .inr (.inr ⟨hn _, .inl ⟨by simpa using hd, h3, by omega, h2, h4, h5⟩⟩)
        · exact .inr (.inr ⟨hn _, .inr ⟨fun h => h2.trans h, h3, h4⟩⟩)
  rename_i hk1
  split
  · exact .inr (.inr ⟨fun h => by omega, .inr (same _ rfl rfl rfl rfl)⟩)
  rename_i hk2
  split
  · exact .inr (.inr ⟨fun h => by omega, .inr (same _ rfl rfl rfl rfl)⟩)
  rename_i hk8
  split
  · unfold syncP
    split <;> exact .inr (.inr ⟨fun h => by omega, .inr (same _ rfl rfl rfl rfl)⟩)
  rename_i hk3
  split
  · rename_i hk
    unfold crashCP
    split
    · exact .inr (.inr ⟨(fun h => by have h0 := h.1; cases h0), .inr (same _ rfl rfl rfl rfl)⟩)
    · exact .inl ⟨rfl, .inr (.inl hk), rfl, .inl hk⟩
  rename_i hk4
  split
  · rename_i hk
    unfold armP
    split
    · exact .inr (.inr ⟨(fun h => by have h0 := h.1; cases h0), .inr (same _ rfl rfl rfl rfl)⟩)
    · rename_i hd
      split
      · exact .inr (.inr ⟨(fun h => by have h0 := h.1; cases h0), .inr (same _ rfl rfl rfl rfl)⟩)
      · rename_i ha
        exact .inr (.inl ⟨rfl, hk, rfl, rfl, by omega, rfl, by show P.down = false; simpa using hd⟩)
  rename_i hk5
  split
  · rename_i hk
    unfold disarmP
    split
    · exact .inr (.inr ⟨(fun h => by have h0 := h.1; cases h0), .inr (same _ rfl rfl rfl rfl)⟩)
    · exact .inl ⟨rfl, .inr (.inr hk), rfl, .inr fun h => h⟩
  rename_i hk6
  split
  · unfold reopenP
    split
    · exact .inr (.inr ⟨fun h => by omega, .inr ⟨fun _ => rfl, rfl, fun h => ⟨hf h, rfl⟩⟩⟩)
    · exact .inr (.inr ⟨fun h => by omega, .inr (same _ rfl rfl rfl rfl)⟩)
  · exact .inr (.inr ⟨fun h => by omega, .inr (same _ rfl rfl rfl rfl)⟩)
end Go.Proofs.Qxb6500837aDoor

