import Derived.Test.Qxb6500835aFmtW9
import Derived.Stop.CallBack
import Derived.Stop.IfaceNil
import Derived.WalkKit
import Derived.WalkSpells
import GoSem.ClaimData
set_option linter.unusedVariables false
set_option linter.unusedSimpArgs false
namespace Go.Proofs.Qxb6500835aFmt
open Go.RowKit Go.E1 Go.Conv Go.Extern.Stop Go.Stop Go.Extern

/-! ### fmt.Sprintf("t%06d", n) -/
theorem fm_call (args : Array Value) (w : World) : (callFunc 7 args).run Tryf.prog w = ((FmtStop.sprintf #[9, 95] #[9] args).run Tryf.prog w).andThen fun v w' => .ok (.value v) w' :=
  run_callFunc_extern Tryf.func7 (by kernel_rfl) (by kernel_rfl) (by kernel_rfl) (by kernel_rfl) args w
theorem fm_guard (name : String) (w : World) : (FmtStop.guard name).run Tryf.prog w = .ok () w := by kernel_rfl
theorem fm_fmt : FmtStop.printed? ⟨#[116, 37, 48, 54, 100]⟩ 1 = some [(0, 100, false)] := by kernel_rfl
theorem fm_fmtr (w : World) : (FmtDoors.printed ⟨#[116, 37, 48, 54, 100]⟩ 1).run Tryf.prog w = .ok [(0, 100, false)] w := by kernel_rfl
def fm_shape : List UInt8 := [5, 3, 0, 0, 0, 0, 0, 0, 0, 105, 110, 116]
theorem fm_op (name : String) (x : Int) (w : World) : (FmtStop.operand name false 100 false (.iface 3 (.int .i64 x))).run Tryf.prog w = .ok (fm_shape, Go.Extern.Stop.digits 8 (x % 2 ^ 64).toNat) w := by kernel_rfl
theorem fm_strict (name : String) (x : Int) (w : World) : (FmtStop.strict name (.iface 3 (.int .i64 x))).run Tryf.prog w = .ok (fm_shape, Go.Extern.Stop.digits 8 (x % 2 ^ 64).toNat) w := by kernel_rfl
def fReading (x : Int) : List (List UInt8) := [[116, 37, 48, 54, 100], fm_shape, digits 8 (x % 18446744073709551616).toNat]
theorem fm_run (F : Interp) (x : Int) (b : Nat) (w : World) (hF : F.answers w.tape) (hb : w.cell? ⟨b, 0, none⟩ = some (.iface 3 (.int .i64 x))) :
    (callFunc 7 #[.string ⟨#[116, 37, 48, 54, 100]⟩, .slice (some ⟨b, 0, none⟩) 1 1]).run Tryf.prog w = .ok (.value (.string (FmtStop.textOf (F "fmt.Sprintf" (fReading x) 0)))) w.drew := by
  have hF' := answers_open hF
  simp [go_sem, fm_call, fm_guard, fm_fmt, fm_fmtr, fm_op, fm_strict, fReading, hb, hF']

/-- A term's posting as a key. -/
def kv3 (s : ByteArray) (p : Pr) : Value := .agg #[.string s, .int .u32 p.1, .int .u8 p.2]
theorem kv3_inj {s u : ByteArray} {p q : Pr} (h : kv3 s p = kv3 u q) : s = u ∧ p = q := by
  unfold kv3 at h
  simp only [Value.agg.injEq, Array.mk.injEq, List.cons.injEq, Value.int.injEq, Value.string.injEq, true_and, and_true] at h
  exact ⟨h.1, Prod.ext h.2.1 h.2.2⟩
theorem kv3_good {s : ByteArray} {p : Pr} {v : Nat} (h0 : s.size ≤ 1000) (h1 : 0 ≤ p.1) (h2 : p.1 < 4294967296) (h3 : p.2 = (v : Int)) (h4 : v < 256) : keyGood Tryf.prog 60 (kv3 s p) := by
  have m1 : IntKind.u32.min = 0 := rfl
  have m2 : IntKind.u32.max = 4294967295 := rfl
  have m3 : IntKind.u8.min = 0 := rfl
  have m4 : IntKind.u8.max = 255 := rfl
  have m5 : maxLen = 9223372036854775807 := rfl
  refine keyGood_of (vs := [.string s, .int .u32 p.1, .int .u8 p.2]) ty_some ty_kf60 ty_cells60 rfl fun q hq => ?_
  simp only [List.mem_cons, List.not_mem_nil, or_false] at hq
  rcases hq with rfl | rfl | rfl
  · exact ⟨by simp, keyPart_str ty_cells9 ty_ustr9 (by omega)⟩
  · exact ⟨by simp, keyPart_int ty_cells44 ty_uint44 (by simp only [m1]; exact h1) (by simp only [m2]; omega)⟩
  · exact ⟨by simp, keyPart_int ty_cells5 ty_uint5 (by simp only [m3]; omega) (by simp only [m4]; omega)⟩

theorem ty_conv0 : zeroL Tryf.prog 27 = some (List.replicate 512 (.int .i32 0) ++ [.slice none 0 0]) := by kernel_rfl
theorem nth_rep (k : Nat) (z s : Value) : (∀ i, i < k → nth (List.replicate k z ++ [s]) i = z) ∧ nth (List.replicate k z ++ [s]) k = s := by
  refine ⟨fun i hi => ?_, ?_⟩
  · unfold nth
    rw [List.getD_eq_getElem?_getD, List.getElem?_append_left (by simpa using hi), List.getElem?_replicate, if_pos hi]; rfl
  · unfold nth
    rw [List.getD_eq_getElem?_getD, List.getElem?_append_right (by simp)]
    simp
theorem rep_len (k : Nat) (z s : Value) : (List.replicate k z ++ [s]).length = k + 1 := by simp
theorem conv0 : ConvF (nth (List.replicate 512 (.int .i32 0) ++ [.slice none 0 0])) (.slice none 0 0) :=
  ⟨fun i hi => (nth_rep 512 _ _).1 i (by omega), fun i hi => ⟨0, (nth_rep 512 _ _).1 (256 + i) (by omega)⟩, (nth_rep 512 _ _).2⟩

/-- What a call of Convert gave, parted. -/
theorem conv_split {w0 : World} {M : Nat → Prop} {L : List HI} {cb n : Nat} {X : Nat → Pr} {F : Nat → Value} {fv : Value} {FI : List HI} {v : Value} {w' : World} (hF : ConvF F fv) (hfew : FewOk fv FI)
    (h : (¬ OKL n X ∧ (∃ b, v = .tuple #[.slice none 0 0, .iface 78 (.pointer (some ⟨b, 0, none⟩))]) ∧ St w0 M ((cb, Row 27 513 F) :: (FI ++ L)) w') ∨
        (OKL n X ∧ n = 0 ∧ v = .tuple #[.slice none 0 0, .nilIface] ∧ St w0 M ((cb, Row 27 513 F) :: (FI ++ L)) w') ∨
        (OKL n X ∧ 1 ≤ n ∧ ∃ gv, v = .tuple #[gv, .nilIface] ∧ Made w0 M L cb n X gv w')) :
    ∃ gv er, v = .tuple #[gv, er] ∧ ((¬ OKL n X ∧ (∃ b, er = .iface 78 (.pointer (some ⟨b, 0, none⟩))) ∧ St w0 M ((cb, Row 27 513 F) :: (FI ++ L)) w') ∨
      (OKL n X ∧ er = .nilIface ∧ ∃ ga gb gc q S A its F' fv' FI', gv = .slice ga q gc ∧ MadeAt w0 M L cb n X ga gb gc q S A its F' fv' FI' w')) := by
  rcases h with ⟨h1, ⟨b, rfl⟩, st⟩ | h
  · exact ⟨_, _, rfl, .inl ⟨h1, ⟨b, rfl⟩, st⟩⟩
  · obtain ⟨h1, ga, gb, gc, q, S, A, its, F', fv', FI', rfl, hM⟩ := made_any hF hfew h
    exact ⟨_, _, rfl, .inr ⟨h1, rfl, ga, gb, gc, q, S, A, its, F', fv', FI', rfl, hM⟩⟩
end Go.Proofs.Qxb6500835aFmt

