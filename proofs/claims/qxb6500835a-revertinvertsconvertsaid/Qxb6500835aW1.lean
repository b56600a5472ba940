import Derived.Test.Qxb6500835aTy
import Derived.Test.Qxb6500835aC1
set_option linter.unusedVariables false
set_option linter.unusedSimpArgs false
namespace Go.Proofs.Qxb6500835a
open Go.RowKit Go.E1 Go.Conv

/-! The converter's memory. -/

/-- A row of postings: what its first n elements are. -/
def PR (f : Nat → Value) (n : Nat) (A : Nat → Pr) : Prop := ∀ k, k < n → f (0 + k * 2) = .int .u32 (A k).1 ∧ f (0 + k * 2 + 1) = .int .u8 (A k).2

theorem PR.congr {f : Nat → Value} {n : Nat} {A B : Nat → Pr} (h : PR f n A) (hab : ∀ k, k < n → A k = B k) : PR f n B := fun k hk => by rw [← hab k hk]; exact h k hk

theorem PR.set {f : Nat → Value} {n j : Nat} {A : Nat → Pr} (h : PR f n A) (p : Pr) : PR (upds f (0 + j * 2) 2 (nth [.int .u32 p.1, .int .u8 p.2])) n (fun k => if k = j then p else A k) := by
  intro k hk
  obtain ⟨h1, h2⟩ := h k hk
  by_cases hkj : k = j
  · subst hkj
    constructor
    · simp only [upds_eq]; rw [if_pos (by omega), show 0 + k * 2 - (0 + k * 2) = 0 by omega]; simp [nth]
    · simp only [upds_eq]; rw [if_pos (by omega), show 0 + k * 2 + 1 - (0 + k * 2) = 1 by omega]; simp [nth]
  · constructor
    · simp only [upds_eq]; rw [if_neg (by omega), if_neg hkj]; exact h1
    · simp only [upds_eq]; rw [if_neg (by omega), if_neg hkj]; exact h2

/-- A list of postings in memory. -/
def LAt (w : World) (b o n : Nat) (X : Nat → Pr) : Prop := ∀ k, k < n → w.cell? ⟨b, o + k * 2, none⟩ = some (.int .u32 (X k).1) ∧ w.cell? ⟨b, o + k * 2 + 1, none⟩ = some (.int .u8 (X k).2)

/-- The converter's scratch slice: nil, or a row of its own. -/
def FewOk (fv : Value) (FI : List HI) : Prop :=
  (fv = .slice none 0 0 ∧ FI = []) ∨ ∃ fb m cap ff, fv = .slice (some ⟨fb, 0, none⟩) m cap ∧ m ≤ cap ∧ cap ≤ 9223372036854775807 ∧ FI = [(fb, Row 63 (cap * 2) ff)]

/-- The converter's struct between two calls. -/
structure ConvF (F : Nat → Value) (fv : Value) : Prop where
  cnt : ∀ i, i < 256 → F i = .int .i32 0
  grp : ∀ i, i < 256 → ∃ g, F (256 + i) = .int .i32 g
  few : F 512 = fv

theorem badInput_ok (s : ByteArray) (t d : Int) {w0 : World} {M : Nat → Prop} {L : List HI} {w : World} (st : St w0 M L w) :
    Calls Try.prog 9 #[.string s, .int .i64 t, .int .i64 d] w (Ret fun v w' => ∃ b, v = .iface 75 (.pointer (some ⟨b, 0, none⟩)) ∧ St w0 M ((b, Row 77 3 (nth [.string s, .int .i64 t, .int .i64 d])) :: L) w') := by
  refine enter [.string s, .int .i64 t, .int .i64 d] Try.func9 rfl Try.ntmps9 rfl ?_
  show WC _ _ _ 13 [] [(0, .string s), (1, .int .i64 t), (2, .int .i64 d)] _
  refine WC.seq fun K1 hK1 => ?_
  -- region 0
  refine WC.region ?_
  -- R0.0 6 := errors.go:60 assign
  refine WL.v (by first | exact r_assign (v := .nilIface) rfl | exact r_assign (v := .iface _ _) rfl | exact r_assign rfl) rfl rfl rfl ?_
  refine WL.fin hK1 (fun _ _ h => h) ?_
  refine WC.seq fun K2 hK2 => ?_
  -- region 1
  refine WC.region ?_
  -- R1.0 7 := errors.go:61 move
  refine WL.v (by first | exact r_move (v := .string _) rfl | exact r_move rfl) rfl rfl rfl ?_
  -- R1.1 8 := errors.go:61 move
  refine WL.v (by first | exact r_move (v := .int _ _) rfl | exact r_move rfl) rfl rfl rfl ?_
  -- R1.2 9 := errors.go:61 move
  refine WL.v (by first | exact r_move (v := .int _ _) rfl | exact r_move rfl) rfl rfl rfl ?_
  -- R1.3 10 := errors.go:61 build
  refine WL.v (by first | exact r_build (vs := [.string _, .int _ _, .int _ _]) ty_pl77 ty_zero77 rfl rfl | exact r_build (vs := [_, _, _]) ty_pl77 ty_zero77 rfl rfl | exact r_build ty_pl77 ty_zero77 rfl rfl) rfl rfl rfl ?_
  -- R1.4 11 := errors.go:61 box
  first | refine WL.box (m := 3) (vs := [.string _, .int _ _, .int _ _]) st rfl rfl rfl rfl rfl rfl ?_ | refine WL.box (m := 3) (vs := [_, _, _]) st rfl rfl rfl rfl rfl rfl ?_ | refine WL.box st rfl rfl rfl rfl rfl rfl ?_
  intro b11 w st
  -- R1.5 12 := errors.go:61 makeInterface
  refine WL.v (by exact r_iface ty_conc75 rfl) rfl rfl rfl ?_
  -- R1.6 6 := errors.go:61 assign
  refine WL.v (by first | exact r_assign (v := .nilIface) rfl | exact r_assign (v := .iface _ _) rfl | exact r_assign rfl) rfl rfl rfl ?_
  refine WL.fin hK2 (fun _ _ h => h) ?_
  refine WC.ret1 Try.results9 (fun _ _ h => h) rfl ?_
  exact ⟨_, rfl, b11, rfl, st⟩

end Go.Proofs.Qxb6500835a

