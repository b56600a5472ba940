import Derived.Test.Qxb6500837aDoorTy
import Derived.Test.Qxb6500837aDoorLocks
import Derived.Test.Qxb6500837aDoorC7
set_option linter.unusedVariables false
set_option linter.unusedSimpArgs false
set_option maxRecDepth 20000
namespace Go.Disk
open Go Go.RowKit Go.E1

abbrev S0 (w0 : World) (l : List HI) (w : World) : Prop := St w0 (fun _ => False) l w

/-- What is known of a disk, of its memory too. -/
structure DK where
  bD : Nat
  bX : Nat
  bS : Nat
  bM : Nat
  eb : Nat → Option Nat
  sb : Nat → Option Nat
  sectors : Nat
  limit : Nat
  pc : Nat → Nat → Int
  hd : Nat
  tl : Nat
  ss : Nat → Int
  sd : Nat → Nat → Int
  N : Int → Option Nat
  down : Bool
  armed : Bool
  fuse : Int
  kv : Value
  XK : List HI
  tear : Int
  tb : Int
  sx : Nat → Int

def nV (N : Int → Option Nat) (s : Int) : Option Value := (N s).map fun q => .int .i64 (q : Nat)
def DK.nE (D : DK) : Nat := (D.sectors + 63) / 64
def DK.nS (D : DK) : Nat := (D.limit + 31) / 32
def dC (m : Int) (D : DK) : List Value :=
  [.int .i32 m, .int .u32 0, .int .i64 (D.sectors : Nat), .slice (some ⟨D.bX, 0, none⟩) D.nE D.nE, .int .i64 (D.limit : Nat), .int .i64 (D.hd : Nat), .int .i64 (D.tl : Nat), .slice (some ⟨D.bS, 0, none⟩) D.nS D.nS, .map (some D.bM),
   .bool D.down, .bool D.armed, .int .i64 D.fuse, D.kv, .int .i64 D.tear, .int .i64 D.tb, .int .i64 (D.sx 0), .int .i64 (D.sx 1), .int .i64 (D.sx 2), .int .i64 (D.sx 3), .int .i64 (D.sx 4), .int .i64 (D.sx 5), .int .i64 (D.sx 6), .int .i64 (D.sx 7)]
def exF (eb : Nat → Option Nat) (i : Nat) : Value :=
  match eb i with
  | none => .slice none 0 0
  | some b => .slice (some ⟨b, 0, none⟩) 32768 32768
def slF (sb : Nat → Option Nat) (i : Nat) : Value :=
  match sb i with
  | none => .pointer none
  | some b => .pointer (some ⟨b, 0, none⟩)
def exR (pc : Nat → Nat → Int) (i j : Nat) : Value := .int .u8 (pc (64 * i + j / 512) (j % 512))
def slR (ss : Nat → Int) (sd : Nat → Nat → Int) (i j : Nat) : Value := if j < 32 then .int .i64 (ss (32 * i + j)) else .int .u8 (sd (32 * i + (j - 32) / 512) ((j - 32) % 512))
def exI (eb : Nat → Option Nat) (pc : Nat → Nat → Int) (i : Nat) : List HI :=
  match eb i with
  | none => []
  | some b => [(b, Row 5 32768 (exR pc i))]
def slI (sb : Nat → Option Nat) (ss : Nat → Int) (sd : Nat → Nat → Int) (i : Nat) : List HI :=
  match sb i with
  | none => []
  | some b => [(b, Row 132 16416 (slR ss sd i))]
abbrev DX (D : DK) (L : List HI) : List HI := D.XK ++ (gather D.nE (exI D.eb D.pc) ++ (gather D.nS (slI D.sb D.ss D.sd) ++ L))
/-- The disk's memory; q tells what is known of the map's object. -/
abbrev DIq (q : Obj → Prop) (D : DK) (m : Int) (L : List HI) : List HI :=
  (D.bD, Row 97 23 (nth (dC m D))) :: (D.bX, Row 29 D.nE (exF D.eb)) :: (D.bS, Row 128 D.nS (slF D.sb)) :: (D.bM, q) :: DX D L
abbrev mapP (D : DK) : Obj → Prop := MapV (keyGood Go.Proofs.Tryd.prog 2) (gOf (nV D.N))
abbrev DI (D : DK) (m : Int) (L : List HI) : List HI := DIq (mapP D) D m L

theorem mem_gather {n i : Nat} {f : Nat → List HI} {x : HI} (hi : i < n) (hx : x ∈ f i) : x ∈ gather n f := List.mem_flatMap.2 ⟨i, List.mem_range.2 hi, hx⟩

section
variable {w0 w : World} {D : DK} {m : Int} {L : List HI} {q : Obj → Prop}
theorem mem_ext {i b : Nat} (hi : i < D.nE) (hb : D.eb i = some b) : (b, Row 5 32768 (exR D.pc i)) ∈ DIq q D m L := by
  have : (b, Row 5 32768 (exR D.pc i)) ∈ gather D.nE (exI D.eb D.pc) := mem_gather hi (by simp [exI, hb])
  simp [this]
theorem mem_slab {i b : Nat} (hi : i < D.nS) (hb : D.sb i = some b) : (b, Row 132 16416 (slR D.ss D.sd i)) ∈ DIq q D m L := by
  have : (b, Row 132 16416 (slR D.ss D.sd i)) ∈ gather D.nS (slI D.sb D.ss D.sd) := mem_gather hi (by simp [slI, hb])
  simp [this]
theorem ld_ext (st : S0 w0 (DIq q D m L) w) {i : Nat} (hi : i < D.nE) : w.cell? ⟨D.bX, 0 + i * 1, none⟩ = some (exF D.eb i) := by
  rw [show 0 + i * 1 = i by omega]; exact st.c1 hi
theorem ld_slab (st : S0 w0 (DIq q D m L) w) {i : Nat} (hi : i < D.nS) : w.cell? ⟨D.bS, 0 + i * 1, none⟩ = some (slF D.sb i) := by
  rw [show 0 + i * 1 = i by omega]; exact st.c2 hi
theorem ld_ss (st : S0 w0 (DIq q D m L) w) {i b k : Nat} (hi : i < D.nS) (hb : D.sb i = some b) (hk : k < 32) : w.cell? ⟨b, k, none⟩ = some (.int .i64 (D.ss (32 * i + k))) := by
  rw [st.cell (mem_slab hi hb) (by omega)]; simp [slR, hk]
theorem slR_d {ss : Nat → Int} {sd : Nat → Nat → Int} {i k j : Nat} (hj : j < 512) : slR ss sd i (32 + k * 512 + j) = .int .u8 (sd (32 * i + k) j) := by
  unfold slR
  rw [if_neg (by omega), show (32 + k * 512 + j - 32) / 512 = k by omega, show (32 + k * 512 + j - 32) % 512 = j by omega]
theorem exR_d {pc : Nat → Nat → Int} {s j : Nat} (hj : j < 512) : exR pc (s / 64) (s % 64 * 512 + j) = .int .u8 (pc s j) := by
  unfold exR
  rw [show (s % 64 * 512 + j) / 512 = s % 64 by omega, show (s % 64 * 512 + j) % 512 = j by omega, show 64 * (s / 64) + s % 64 = s by omega]
theorem ld_sd (st : S0 w0 (DIq q D m L) w) {i b k j : Nat} (hi : i < D.nS) (hb : D.sb i = some b) (hk : k < 32) (hj : j < 512) : w.cell? ⟨b, 32 + k * 512 + j, none⟩ = some (.int .u8 (D.sd (32 * i + k) j)) := by
  rw [st.cell (mem_slab hi hb) (by omega), slR_d hj]
theorem ld_pc (st : S0 w0 (DIq q D m L) w) {s b j : Nat} (hi : s / 64 < D.nE) (hb : D.eb (s / 64) = some b) (hj : j < 512) : w.cell? ⟨b, s % 64 * 512 + j, none⟩ = some (.int .u8 (D.pc s j)) := by
  rw [st.cell (mem_ext hi hb) (by omega), exR_d hj]

/-- One extent's row brought to the front, and whatever stands in its place put back. -/
theorem at_ext {i : Nat} (hi : i < D.nE) : ∃ R : List HI, ∀ D' : DK, D'.bD = D.bD → D'.bX = D.bX → D'.bS = D.bS → D'.bM = D.bM → D'.sectors = D.sectors → D'.limit = D.limit → D'.sb = D.sb → D'.ss = D.ss → D'.sd = D.sd → D'.XK = D.XK → dC m D' = dC m D → (∀ j, j ≠ i → D'.eb j = D.eb j) → (∀ j k, j / 64 ≠ i → D'.pc j k = D.pc j k) →
    (DIq q D' m L).Perm (exI D'.eb D'.pc i ++ ((D'.bX, Row 29 D'.nE (exF D'.eb)) :: R)) := by
  obtain ⟨R, hR⟩ := gather_at hi (exI D.eb D.pc)
  refine ⟨(D.bD, Row 97 23 (nth (dC m D))) :: (D.bS, Row 128 D.nS (slF D.sb)) :: (D.bM, q) :: (D.XK ++ (R ++ (gather D.nS (slI D.sb D.ss D.sd) ++ L))), fun D' h1 h2 h3 h4 h5 h6 h7 h8 h9 h11 h12 h13 h14 => ?_⟩
  have hnE : D'.nE = D.nE := by unfold DK.nE; rw [h5]
  have hnS : D'.nS = D.nS := by unfold DK.nS; rw [h6]
  have hg : ∀ j, j ≠ i → exI D'.eb D'.pc j = exI D.eb D.pc j := fun j hj => by
    unfold exI
    rw [h13 j hj]
    split
    · rfl
    · have : exR D'.pc j = exR D.pc j ∨ True := .inr trivial
      have e : ∀ k, k < 32768 → exR D'.pc j k = exR D.pc j k := fun k hk => by
        unfold exR; rw [h14 _ _ (by omega)]
      congr 2
      funext o
      exact propext ⟨fun h => h.congr e, fun h => h.congr fun k hk => (e k hk).symm⟩
  have hp := hR (exI D'.eb D'.pc) hg
  unfold DIq DX
  rw [h1, h3, h4, h7, h8, h9, h11, h12, hnE, hnS]
  have p1 : (D.XK ++ (gather D.nE (exI D'.eb D'.pc) ++ (gather D.nS (slI D.sb D.ss D.sd) ++ L))).Perm (exI D'.eb D'.pc i ++ (D.XK ++ (R ++ (gather D.nS (slI D.sb D.ss D.sd) ++ L)))) := by
    refine ((hp.append_right _).append_left _).trans ?_
    rw [List.append_assoc]
    exact List.perm_append_comm_assoc _ _ _
  refine ((((p1.cons _).cons _).cons _).cons _).trans ?_
  generalize D.XK ++ (R ++ (gather D.nS (slI D.sb D.ss D.sd) ++ L)) = T
  generalize exI D'.eb D'.pc i = E
  refine List.Perm.trans ?_ List.perm_middle.symm
  refine (List.Perm.swap _ _ _).trans (List.Perm.cons _ ?_)
  refine List.Perm.trans ?_ List.perm_middle.symm
  refine List.Perm.cons _ ?_
  refine List.Perm.trans ?_ List.perm_middle.symm
  refine List.Perm.cons _ ?_
  exact List.perm_middle.symm

/-- The like for a slab. -/
theorem at_slab {i : Nat} (hi : i < D.nS) : ∃ R : List HI, ∀ D' : DK, D'.bD = D.bD → D'.bX = D.bX → D'.bS = D.bS → D'.bM = D.bM → D'.sectors = D.sectors → D'.limit = D.limit → D'.eb = D.eb → D'.pc = D.pc → D'.N = D.N → D'.XK = D.XK → dC m D' = dC m D → (∀ j, j ≠ i → D'.sb j = D.sb j) → (∀ j, j / 32 ≠ i → D'.ss j = D.ss j ∧ D'.sd j = D.sd j) →
    (DI D' m L).Perm (slI D'.sb D'.ss D'.sd i ++ ((D'.bS, Row 128 D'.nS (slF D'.sb)) :: R)) := by
  obtain ⟨R, hR⟩ := gather_at hi (slI D.sb D.ss D.sd)
  refine ⟨(D.bD, Row 97 23 (nth (dC m D))) :: (D.bX, Row 29 D.nE (exF D.eb)) :: (D.bM, MapV (keyGood Go.Proofs.Tryd.prog 2) (gOf (nV D.N))) :: (D.XK ++ (gather D.nE (exI D.eb D.pc) ++ (R ++ L))), fun D' h1 h2 h3 h4 h5 h6 h7 h8 h10 h11 h12 h13 h14 => ?_⟩
  have hnE : D'.nE = D.nE := by unfold DK.nE; rw [h5]
  have hnS : D'.nS = D.nS := by unfold DK.nS; rw [h6]
  have hg : ∀ j, j ≠ i → slI D'.sb D'.ss D'.sd j = slI D.sb D.ss D.sd j := fun j hj => by
    unfold slI
    rw [h13 j hj]
    split
    · rfl
    · have e : ∀ k, k < 16416 → slR D'.ss D'.sd j k = slR D.ss D.sd j k := fun k hk => by
        unfold slR
        split
        · rw [(h14 _ (by omega)).1]
        · rw [(h14 _ (by omega)).2]
      congr 2
      funext o
      exact propext ⟨fun h => h.congr e, fun h => h.congr fun k hk => (e k hk).symm⟩
  have hp := hR (slI D'.sb D'.ss D'.sd) hg
  unfold DI DIq mapP DX
  rw [h1, h2, h4, h7, h8, h10, h11, h12, hnE, hnS]
  have p1 : (D.XK ++ (gather D.nE (exI D.eb D.pc) ++ (gather D.nS (slI D'.sb D'.ss D'.sd) ++ L))).Perm (slI D'.sb D'.ss D'.sd i ++ (D.XK ++ (gather D.nE (exI D.eb D.pc) ++ (R ++ L)))) := by
    refine (((hp.append_right L).append_left _).append_left _).trans ?_
    generalize gather D.nE (exI D.eb D.pc) = G
    generalize slI D'.sb D'.ss D'.sd i = E
    rw [List.append_assoc]
    exact ((List.perm_append_comm_assoc G E _).append_left _).trans (List.perm_append_comm_assoc _ _ _)
  refine ((((p1.cons _).cons _).cons _).cons _).trans ?_
  generalize D.XK ++ (gather D.nE (exI D.eb D.pc) ++ (R ++ L)) = T
  generalize slI D'.sb D'.ss D'.sd i = E
  refine List.Perm.trans ?_ List.perm_middle.symm
  refine ((List.Perm.swap _ _ _).cons _).trans ?_
  refine (List.Perm.swap _ _ _).trans (List.Perm.cons _ ?_)
  refine List.Perm.trans ?_ List.perm_middle.symm
  refine List.Perm.cons _ ?_
  refine List.Perm.trans ?_ List.perm_middle.symm
  refine List.Perm.cons _ ?_
  exact List.perm_middle.symm
end
theorem good64 {s : Int} (h1 : -9223372036854775808 ≤ s) (h2 : s ≤ 9223372036854775807) : keyGood Go.Proofs.Tryd.prog 2 (.int .i64 s) :=
  ⟨.int .i64 s, Go.Maps.keyOf_int_mk Go.Proofs.Tryd.underlying2 (by simp only [Lit.wf, Bool.and_eq_true, decide_eq_true_eq]; exact ⟨h1, h2⟩)⟩
end Go.Disk

