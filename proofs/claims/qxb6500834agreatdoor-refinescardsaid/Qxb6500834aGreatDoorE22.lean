/-
  E22: locks and deferred calls; maps with integer keys: delete, clear; slices: clear, copy of the shorter length; parts of an array; nil tests; lists of items with a part that is indexed. No project text.
-/
import Derived.Test.Qxb6500834aGreatDoorE21
import Derived.Conc.MuLone
import Derived.Lib.SliceRun
import Derived.Laws.Pointers
set_option linter.unusedSimpArgs false
set_option linter.unusedVariables false
namespace Go.E1
open Go.RowKit Go.MapKept

/-! ### Deferred calls -/
section
variable {P : Program} {ops : Array Oper} {Q : Exit → Act → World → Prop} {n : Nat} {ds : List Deferred} {rest : List Oper} {e : Env} {w w0 : World} {M : Nat → Prop} {l : List HI}
variable {ty : TypeId} {pos : String} {af : Array Edge} {g : Option (Nat × Bool)}

/-- What follows may stand behind other deferred calls. -/
theorem WC.seqD {x y : Code} (h : ∀ K : Act → World → Prop, (∀ ds' e' w', WC P y Q n ds' e' w' → ∀ a, Fits a n ds' e' → K a w') → WC P x (Exit.then K Q) n ds e w) : WC P (.seq x y) Q n ds e w := by
  intro a ha
  refine wp_seq_k fun K hK => h K (fun ds' e' w' hy a' ha' => hK a' w' (hy a' ha')) a ha

/-- 'defer f(..)'. -/
theorem WL.defer {f : Nat} {xs : List Operand} {vs : List Value} {ats : Array TypeId} (hv : xs.map (ev e) = vs) (hc : xs.all (okX e) = true) (hg : wantE ops e g = true)
    (k : WL P ops Q n (⟨.fn (.func f) #[], vs.toArray⟩ :: ds) rest e w) : WL P ops Q n ds (⟨none, .defer ⟨.value (.func f), xs.toArray, ats⟩, ty, pos, af, g⟩ :: rest) e w := by
  intro a ha
  unfold wpList
  rw [if_pos (wanted_of ha hg)]
  refine .inl ?_
  have hx : xs.map a.eval = vs := by
    rw [← hv]
    exact List.map_congr_left fun x hx => ha.eval (List.all_eq_true.1 hc x hx)
  have hr : (execOp a.eval ⟨none, .defer ⟨.value (.func f), xs.toArray, ats⟩, ty, pos, af, g⟩).run P w = .ok (.defer ⟨.fn (.func f) #[], vs.toArray⟩) w := by
    have h0 : a.eval (.func f) = .func (.func f) #[] #[] := rfl
    simp [execOp, resolve, h0, Deferred.ofValue, hx, go_sem]
  unfold Oper.wp
  rw [hr, Oper.upon_defer]
  exact k _ ⟨ha.size, by simp [Act.put, ha.defers], ha.has⟩

variable {fn : Func} {R : Ending → World → Prop} {Lk : Go.Conc.Locks.MuLink} {b o t m : Nat} {f : Nat → Value}

/-- The unlock that was put off. -/
theorem leaves_unlock {tmps : Array Value} {v : Value} (H : Go.Conc.Locks.MuLib P Lk) (hcall : callT P Lk.unlock = true) (st : St w0 M ((b, Row t m f) :: l) w) (ho : o < m) (hf : f o = .int .i32 1)
    (hres : ∀ w, (results fn tmps).run P w = .ok v w) (h : ∀ w', St w0 M ((b, Row t m (upd f o (.int .i32 0))) :: l) w' → R (.returned v) w') :
    Leaves P fn tmps R [⟨.fn (.func Lk.unlock) #[], #[.pointer (some ⟨b, o, none⟩)]⟩] .returning w := by
  obtain ⟨s1, c1, z1⟩ := st.setCell ho (.int .i32 0)
  rw [hf] at c1
  refine leaves_cons (f := Lk.unlock) (args := #[.pointer (some ⟨b, o, none⟩)]) (by simp) (by simp only [invoke]; rw [run_callFunc hcall]; rfl) ?_
  refine (Go.MuLone.unlock_deferred H ⟨b, o, none⟩ .returning w c1 z1).mono ?_
  rintro en u' w'' ⟨rfl, rfl, rfl⟩
  exact ⟨v, hres _, h _ s1⟩

theorem WC.retD1 {u : Nat} (H : Go.Conc.Locks.MuLib P Lk) (hcall : callT P Lk.unlock = true) (hr : fn.results = #[.tmp u]) (hq : ∀ a w, bodyPostD P fn R .ret a w → Q .ret a w) (hk : knows e u = true) (st : St w0 M ((b, Row t m f) :: l) w) (ho : o < m) (hf : f o = .int .i32 1)
    (h : ∀ w', St w0 M ((b, Row t m (upd f o (.int .i32 0))) :: l) w' → R (.returned (look e u)) w') : WC P .ret Q n [⟨.fn (.func Lk.unlock) #[], #[.pointer (some ⟨b, o, none⟩)]⟩] e w :=
  fun a ha => wp_ret (hq a w (by
    show Leaves P fn a.tmps R a.defers .returning w
    rw [ha.defers]
    exact leaves_unlock H hcall st ho hf (fun w => by rw [results_tmp hr, ha.getD hk]) h))
theorem WC.retD2 {u u2 : Nat} (H : Go.Conc.Locks.MuLib P Lk) (hcall : callT P Lk.unlock = true) (hr : fn.results = #[.tmp u, .tmp u2]) (hq : ∀ a w, bodyPostD P fn R .ret a w → Q .ret a w) (hk : (knows e u && knows e u2) = true) (st : St w0 M ((b, Row t m f) :: l) w) (ho : o < m) (hf : f o = .int .i32 1)
    (h : ∀ w', St w0 M ((b, Row t m (upd f o (.int .i32 0))) :: l) w' → R (.returned (.tuple #[look e u, look e u2])) w') : WC P .ret Q n [⟨.fn (.func Lk.unlock) #[], #[.pointer (some ⟨b, o, none⟩)]⟩] e w := by
  simp only [Bool.and_eq_true] at hk
  exact fun a ha => wp_ret (hq a w (by
    show Leaves P fn a.tmps R a.defers .returning w
    rw [ha.defers]
    exact leaves_unlock H hcall st ho hf (fun w => by rw [results_tmp2 hr, ha.getD hk.1, ha.getD hk.2]) h))

variable {d : Nat} {x : Operand} {ats : Array TypeId}
/-- Lock, the lock free. -/
theorem WL.lock (H : Go.Conc.Locks.MuLib P Lk) (hcall : callT P Lk.lock = true) (st : St w0 M ((b, Row t m f) :: l) w) (hx : ev e x = .pointer (some ⟨b, o, none⟩)) (ho : o < m) (hf : f o = .int .i32 0) (hc : okX e x = true) (hn : Nat.blt d n = true) (hg : wantE ops e g = true)
    (k : ∀ w', St w0 M ((b, Row t m (upd f o (.int .i32 1))) :: l) w' → WL P ops Q n ds rest ((d, .tuple #[]) :: e) w') :
    WL P ops Q n ds (⟨some d, .call ⟨.value (.func Lk.lock), #[x], ats⟩, ty, pos, af, g⟩ :: rest) e w := by
  obtain ⟨s1, c1, z1⟩ := st.setCell ho (.int .i32 1)
  rw [hf] at c1
  have hk : Calls P Lk.lock #[.pointer (some ⟨b, o, none⟩)] w (Ret fun v w' => v = .tuple #[] ∧ St w0 M ((b, Row t m (upd f o (.int .i32 1))) :: l) w') :=
    (Go.MuLone.lock_free H ⟨b, o, none⟩ w c1 z1).mono fun en w' h => ⟨_, h.1, rfl, by rw [h.2]; exact s1⟩
  refine WL.call (r_call (xs := [x]) (vs := [.pointer (some ⟨b, o, none⟩)]) hcall (by simp [hx])) (by simpa [cov, noSel, Op.operands, Call.operands, okX] using hc) hn hg hk ?_
  rintro v w' ⟨rfl, st⟩
  exact k w' st
end

/-! ### Maps with keys of kind int64 -/
def gOf (N : Int → Option Value) : Value → Option Value
  | .int .i64 s => N s
  | _ => none
def setN (N : Int → Option Value) (s : Int) (v : Value) : Int → Option Value := fun x => if x = s then some v else N x
def delN (N : Int → Option Value) (s : Int) : Int → Option Value := fun x => if x = s then none else N x
theorem gOf_none : gOf (fun _ => none) = fun _ => none := by
  funext v; unfold gOf; split <;> rfl
theorem setG_gOf {N : Int → Option Value} {s : Int} {v : Value} {G' : Value → Option Value} (h : SetG (gOf N) (.int .i64 s) v G') : G' = gOf (setN N s v) := by
  funext u
  by_cases hu : u = .int .i64 s
  · subst hu; rw [h.1]; simp [gOf, setN]
  · rw [h.2 u hu]
    unfold gOf
    split
    · rename_i x
      have : x ≠ s := fun h => hu (by rw [h])
      simp [setN, this]
    · rfl

section
variable {P : Program} {ops : Array Oper} {Q : Exit → Act → World → Prop} {n : Nat} {ds : List Deferred} {rest : List Oper} {e : Env} {w w0 : World} {M : Nat → Prop} {l : List HI}
variable {d : Nat} {ty : TypeId} {pos : String} {af : Array Edge} {g : Option (Nat × Bool)} {x y z : Operand}

theorem WL.mapSetI {T kt et b : Nat} {good : Value → Prop} {N : Int → Option Value} {s : Int} {val : Value} (K : KB P kt good) (st : St w0 M ((b, MapV good (gOf N)) :: l) w) (hT : mpT P T = some (kt, et))
    (hx : ev e x = .map (some b)) (hy : ev e y = .int .i64 s) (hz : ev e z = val) (hk : good (.int .i64 s)) (hc : (okX e x && (okX e y && okX e z)) = true) (hg : wantE ops e g = true)
    (k : ∀ w', St w0 M ((b, MapV good (gOf (setN N s val))) :: l) w' → WL P ops Q n ds rest e w') : WL P ops Q n ds (⟨none, .mapUpdate T x y z, ty, pos, af, g⟩ :: rest) e w :=
  WL.mapSet K st hT hx hy hz hk hc hg fun G' w' hS st' => k w' (by rw [← setG_gOf hS]; exact st')

theorem mapV_erase {good : Value → Prop} {N : Int → Option Value} {es : Array MapEntry} {clock j : Nat} {s : Int} {e0 : MapEntry} (hs : Stamped es clock) (h1 : ∀ x ∈ es.toList, good x.key ∧ gOf N x.key = some x.val)
    (h2 : ∀ v u, gOf N v = some u → ∃ x ∈ es.toList, x.key = v) (hj : es.toList[j]? = some e0) (he0 : e0.key = .int .i64 s) : MapV good (gOf (delN N s)) (.map (es.eraseIdxIfInBounds j) clock) := by
  have hlt : j < es.size := by
    have := (List.getElem?_eq_some_iff.1 hj).1; simpa using this
  have hl : (es.eraseIdxIfInBounds j).toList = es.toList.eraseIdx j := by
    simp [Array.eraseIdxIfInBounds, hlt]
  have hnd := hs.2.2
  have hmem : ∀ x, x ∈ es.toList.eraseIdx j → x ∈ es.toList ∧ x.key ≠ .int .i64 s := fun x hx => by
    obtain ⟨i, hi⟩ := List.mem_iff_getElem?.1 hx
    rw [List.getElem?_eraseIdx] at hi
    obtain ⟨q, hq, hqj⟩ : ∃ q, es.toList[q]? = some x ∧ q ≠ j := by
      split at hi
      · exact ⟨i, hi, by omega⟩
      · exact ⟨i + 1, hi, by omega⟩
    refine ⟨List.mem_iff_getElem?.2 ⟨q, hq⟩, fun hk => hqj ?_⟩
    have a1 : (es.toList.map (·.key))[q]? = some (.int .i64 s) := by rw [List.getElem?_map, hq, ← hk]; rfl
    have a2 : (es.toList.map (·.key))[j]? = some (.int .i64 s) := by rw [List.getElem?_map, hj, ← he0]; rfl
    exact (List.getElem?_inj (List.getElem?_eq_some_iff.1 a1).1 hnd).1 (a1.trans a2.symm)
  have hg : ∀ v, v ≠ .int .i64 s → gOf (delN N s) v = gOf N v := fun v hv => by
    unfold gOf
    split
    · rename_i x
      have : x ≠ s := fun h => hv (by rw [h])
      simp [delN, this]
    · rfl
  refine ⟨_, _, rfl, stamped_erase hs j, fun x hx => ?_, fun v u hv => ?_⟩
  · rw [hl] at hx
    obtain ⟨a, b⟩ := hmem x hx
    exact ⟨(h1 x a).1, by rw [hg _ b]; exact (h1 x a).2⟩
  · have hvs : v ≠ .int .i64 s := fun h => by subst h; simp [gOf, delN] at hv
    rw [hg v hvs] at hv
    obtain ⟨x, hx, hxv⟩ := h2 v u hv
    obtain ⟨i, hi⟩ := List.mem_iff_getElem?.1 hx
    have hij : i ≠ j := fun h => by subst h; rw [hj] at hi; cases hi; exact hvs (hxv.symm.trans he0)
    refine ⟨x, ?_, hxv⟩
    rw [hl]
    refine List.mem_iff_getElem?.2 ?_
    by_cases hlt2 : i < j
    · exact ⟨i, by rw [List.getElem?_eraseIdx, if_pos hlt2]; exact hi⟩
    · exact ⟨i - 1, by rw [List.getElem?_eraseIdx, if_neg (by omega), show i - 1 + 1 = i by omega]; exact hi⟩

/-- 'delete(m, k)'. -/
theorem WL.delI {T T2 kt et b : Nat} {good : Value → Prop} {N : Int → Option Value} {s : Int} (K : KB P kt good) (st : St w0 M ((b, MapV good (gOf N)) :: l) w) (hT : mpT P T = some (kt, et))
    (hx : ev e x = .map (some b)) (hy : ev e y = .int .i64 s) (hk : good (.int .i64 s)) (hc : (okX e x && okX e y) = true) (hg : wantE ops e g = true)
    (k : ∀ w', St w0 M ((b, MapV good (gOf (delN N s))) :: l) w' → WL P ops Q n ds rest e w') : WL P ops Q n ds (⟨none, .call ⟨.builtin .delete, #[x, y], #[T, T2]⟩, ty, pos, af, g⟩ :: rest) e w := by
  have hu := mpT_spec hT
  obtain ⟨o, hb, es, clock, rfl, hs, h1, h2⟩ := st.get (b, MapV good (gOf N)) (by simp)
  simp only at hb
  rcases look_found K h1 h2 hk w with ⟨a, c, hne⟩ | ⟨j, e0, a, hj, he0, c⟩
  · have hN : delN N s = N := by
      funext u
      unfold delN
      split
      · rename_i h; subst h; exact a.symm
      · rfl
    refine WL.vn (v := .tuple #[]) (w' := { w with heap := w.heap.setIfInBounds b (.map es clock) }) ?_ (by simpa [cov, noSel, Op.operands, Call.operands] using hc) hg (k _ (by rw [hN]; exact st_setObj st hb ⟨es, clock, rfl, hs, h1, h2⟩))
    simp only [execOp, resolve, invoke, builtin]
    simp [hx, hy, Builtin.delete_, run_underlying hu, MapKept.run_getObj_map hb, K.check w _ _ hk, c, MapKept.run_setObj_map _ hb, Result.andThen]
  · refine WL.vn (v := .tuple #[]) (w' := { w with heap := w.heap.setIfInBounds b (.map (es.eraseIdxIfInBounds j) clock) }) ?_ (by simpa [cov, noSel, Op.operands, Call.operands] using hc) hg (k _ (st_setObj st hb (mapV_erase hs h1 h2 hj he0)))
    simp only [execOp, resolve, invoke, builtin]
    simp [hx, hy, Builtin.delete_, run_underlying hu, MapKept.run_getObj_map hb, K.check w _ _ hk, a, MapKept.run_setObj_map _ hb, Result.andThen]

/-- 'clear(m)'. -/
theorem WL.clearI {T kt et b : Nat} {good : Value → Prop} {G : Value → Option Value} (st : St w0 M ((b, MapV good G) :: l) w) (hT : mpT P T = some (kt, et))
    (hx : ev e x = .map (some b)) (hc : okX e x = true) (hg : wantE ops e g = true)
    (k : ∀ w', St w0 M ((b, MapV good (gOf fun _ => none)) :: l) w' → WL P ops Q n ds rest e w') : WL P ops Q n ds (⟨none, .call ⟨.builtin .clear, #[x], #[T]⟩, ty, pos, af, g⟩ :: rest) e w := by
  have hu := mpT_spec hT
  obtain ⟨o, hb, es, clock, rfl, hs, h1, h2⟩ := st.get (b, MapV good G) (by simp)
  simp only at hb
  refine WL.vn (v := .tuple #[]) (w' := { w with heap := w.heap.setIfInBounds b (.map #[] clock) }) ?_ (by simpa [cov, noSel, Op.operands, Call.operands] using hc) hg (k _ (by rw [gOf_none]; exact st_setObj st hb (mapV_empty good clock)))
  simp only [execOp, resolve, invoke, builtin]
  simp [hx, Builtin.clear_, run_underlying hu, MapKept.run_getObj_map hb, MapKept.run_setObj_map _ hb, Result.andThen]

/-! ### Slices -/
theorem run_clear_row (t e' ty : TypeId) (z : Value) (ht : P.underlying t = some (.slice e')) (hv : ∀ w, (zeroValue e').run P w = .ok z w) (hz : z.cells = #[z]) (h1 : z.oneCell' = true) (b o m c : Nat) (hm : 0 < m) (cur : Array Value) (tt : TypeId)
    (hg : w.heap[b]? = some (.cells cur tt (0, 0))) (hfit : o + m ≤ cur.size) :
    (Builtin.clear_ #[t] ty #[.slice (some ⟨b, o, none⟩) m c]).run P w = .ok (.tuple #[]) (w.setRow b (cur.toList.take o ++ List.replicate m z ++ cur.toList.drop (o + m)).toArray) := by
  have hzc : (Builtin.zeroCells z.cells m).toList = List.replicate m z := by
    rw [hz]
    simp [Builtin.zeroCells]
    apply List.ext_getElem
    · simp
    · intro i h1 h2
      simp [Nat.mod_one]
  have hst := run_storeCells_at P b o tt (List.replicate m z) 0 cur w hg (by simpa using hfit) (by intro v hv'; rw [List.eq_of_mem_replicate hv']; exact h1)
  simp only [Nat.add_zero, List.length_replicate] at hst
  obtain ⟨q, rfl⟩ : ∃ q, m = q + 1 := ⟨m - 1, by omega⟩
  simp [Builtin.clear_, run_underlying ht, hv, hzc, hst]

/-- 'clear(s)', cells of kind uint8. -/
theorem WL.clearS {T el b o m c t mm : Nat} {f : Nat → Value} {zv : Value} (st : St w0 M ((b, Row t mm f) :: l) w) (hT : slT P T = some (el, 1)) (hz : zero1 P el = some zv) (hzc : zv.cells = #[zv]) (hz1 : zv.oneCell' = true) (hx : ev e x = .slice (some ⟨b, o, none⟩) m c) (hm : 0 < m) (hin : o + m ≤ mm) (hc : okX e x = true) (hg : wantE ops e g = true)
    (k : ∀ w', St w0 M ((b, Row t mm (upds f o m fun _ => zv)) :: l) w' → WL P ops Q n ds rest e w') :
    WL P ops Q n ds (⟨none, .call ⟨.builtin .clear, #[x], #[T]⟩, ty, pos, af, g⟩ :: rest) e w := by
  obtain ⟨hu, i, hi, hi1⟩ := slT_spec hT
  obtain ⟨ob, hb, cs, rfl, hs, hcs⟩ := st.get (b, Row t mm f) (by simp)
  simp only at hb
  have hr := run_clear_row (P := P) (w := w) T el ty zv hu (zero1_spec hz) hzc hz1 b o m c hm cs t hb (by omega)
  refine WL.vn (v := .tuple #[]) (w' := w.setRow b (cs.toList.take o ++ List.replicate m zv ++ cs.toList.drop (o + m)).toArray) ?_ (by simpa [cov, noSel, Op.operands, Call.operands] using hc) hg (k _ (st.setRow hb ⟨_, rfl, ?_, fun j hj => ?_⟩))
  · simp only [execOp, resolve, invoke, builtin]
    simp [hx, hr]
  · simp [List.length_take, List.length_drop]; omega
  · rw [upds_eq]
    have h1 : (cs.toList.take o).length = o := by simp; omega
    simp only [List.getElem?_toArray]
    rw [List.append_assoc]
    by_cases hj1 : j < o
    · rw [List.getElem?_append_left (by omega), if_neg (by omega), List.getElem?_take_of_lt hj1]; simpa using hcs j hj
    · rw [List.getElem?_append_right (by omega), h1]
      by_cases hj2 : j < o + m
      · rw [List.getElem?_append_left (by simp; omega), if_pos ⟨by omega, hj2⟩, List.getElem?_replicate, if_pos (by omega)]
      · rw [List.getElem?_append_right (by simp; omega), if_neg (by omega)]
        simp only [List.length_replicate, List.getElem?_drop]
        rw [show o + m + (j - o - m) = j by omega]
        simpa using hcs j hj

/-- 'copy': as many as the shorter holds, which is not the target. -/
theorem WL.copyM {dT sT el b o t mm m m1 c1 c2 bx ox : Nat} {f news : Nat → Value} (st : St w0 M ((b, Row t mm f) :: l) w) (hT : slT P dT = some (el, 1)) (hx : ev e x = .slice (some ⟨b, o, none⟩) m1 c1) (hy : ev e y = .slice (some ⟨bx, ox, none⟩) m c2)
    (hm : m ≤ m1) (hin : o + m ≤ mm) (hnews : ∀ j, j < m → w.cell? ⟨bx, ox + j, none⟩ = some (news j)) (h1 : ∀ j, j < m → (news j).oneCell' = true) (hc : (okX e x && okX e y) = true) (hn : Nat.blt d n = true) (hg : wantE ops e g = true)
    (k : ∀ w', St w0 M ((b, Row t mm (upds f o m news)) :: l) w' → WL P ops Q n ds rest ((d, .int .i64 (m : Nat)) :: e) w') :
    WL P ops Q n ds (⟨some d, .call ⟨.builtin .copy, #[x, y], #[dT, sT]⟩, ty, pos, af, g⟩ :: rest) e w := by
  obtain ⟨hu, i, hi, hi1⟩ := slT_spec hT
  obtain ⟨ob, hb, cs, rfl, hs, hcs⟩ := st.get (b, Row t mm f) (by simp)
  simp only at hb
  have hmin : Nat.min m m1 = m := Nat.min_eq_left hm
  have hr := run_copy_row (P := P) w dT sT ty el b o m1 c1 ⟨bx, ox, none⟩ m c2 cs t ((List.range m).map news) hu (by simp [hi, hi1]) hb (by simp [hmin]) (fun j u hj => by
      by_cases hj' : j < m
      · simp [hj'] at hj; subst hj; rw [Addr.add_none]; exact hnews j hj'
      · simp [hj'] at hj) (by simp; omega) (fun u hu' => by obtain ⟨j, hj, rfl⟩ := List.mem_map.1 hu'; exact h1 j (List.mem_range.1 hj))
  refine WL.v (v := .int .i64 (m : Nat)) (w' := w.setRow b (cs.toList.take o ++ (List.range m).map news ++ cs.toList.drop (o + ((List.range m).map news).length)).toArray) ?_ (by simpa [cov, noSel, Op.operands, Call.operands] using hc) hn hg (k _ (st.setRow hb ⟨_, rfl, ?_, fun j hj => ?_⟩))
  · simp only [execOp, resolve, invoke, builtin]
    simp [hx, hy, hr, goInt]
  · simp [List.length_take, List.length_drop]; omega
  · rw [upds_eq]
    have h1 : (cs.toList.take o).length = o := by simp; omega
    simp only [List.getElem?_toArray]
    rw [List.append_assoc]
    by_cases hj1 : j < o
    · rw [List.getElem?_append_left (by omega), if_neg (by omega), List.getElem?_take_of_lt hj1]; simpa using hcs j hj
    · rw [List.getElem?_append_right (by omega), h1]
      by_cases hj2 : j < o + m
      · rw [List.getElem?_append_left (by simp; omega), if_pos ⟨by omega, hj2⟩]
        have : j - o < m := by omega
        simp [this]
      · rw [List.getElem?_append_right (by simp; omega), if_neg (by omega)]
        simp only [List.length_map, List.length_range, List.getElem?_drop]
        rw [show o + m + (j - o - m) = j by omega]
        simpa using hcs j hj
end

section
variable {P : Program} {ρ : Operand → Value} {w : World} {d : Option Tmp} {ty : TypeId} {pos : String} {af : Array Edge} {g : Option (Nat × Bool)} {x y z yl yh : Operand}

/-- A part of an array. -/
theorem r_slAB {T e s n b o l h : Nat} {kl kh : IntKind} (hT : arT P T = some (n, e, s)) (hx : ρ x = .pointer (some ⟨b, o, none⟩)) (hl : ρ yl = .int kl (l : Int)) (hh : ρ yh = .int kh (h : Int)) (h1 : l ≤ h) (h2 : h ≤ n) (h3 : l < n) :
    (execOp ρ ⟨d, .slice T x (some yl) (some yh) none, ty, pos, af, g⟩).run P w = .ok (.value (.slice (some ⟨b, o + l * s, none⟩) (h - l) (n - l))) w := by
  obtain ⟨hu, i, hi2, rfl⟩ := arT_spec hT
  have e1 : (l : Int) ≤ (h : Int) := by omega
  have e2 : (h : Int) ≤ (n : Int) := by omega
  have h0 : (⟨b, o, none⟩ : Addr).add (l * i.size) = ⟨b, o + l * i.size, none⟩ := by simp [Addr.add_none]
  have h4 : ¬ n - l = 0 := by omega
  simp [execOp, Instr.sliceAt, hx, hl, hh, run_underlying hu, Instr.sureAddr, Instr.sliceBounds, Instr.sliceBound, asIntOf, e1, e2, h1, h2, run_sizeOf hi2, h0, h4, go_sem]
  intro h5; omega

theorem r_peqT {T te T' : Nat} (hT : P.underlying T = some (.pointer te)) (hx : ρ x = .pointer none) (hy : ρ y = .pointer none) : (execOp ρ ⟨d, .binOp .eql T x y T', ty, pos, af, g⟩).run P w = .ok (.value (.bool true)) w := by
  have hp : P.underlying T = some (.pointer (P.pointee T)) := by rw [hT]; simp [Program.pointee, hT]
  simp [execOp, hx, hy, eqGuard, binOp, run_equal_pointer_nil w T _ hp]
theorem r_peqF {T te T' : Nat} {a : Addr} (hT : P.underlying T = some (.pointer te)) (hx : ρ x = .pointer (some a)) (hy : ρ y = .pointer none) : (execOp ρ ⟨d, .binOp .eql T x y T', ty, pos, af, g⟩).run P w = .ok (.value (.bool false)) w := by
  have hp : P.underlying T = some (.pointer (P.pointee T)) := by rw [hT]; simp [Program.pointee, hT]
  simp [execOp, hx, hy, eqGuard, binOp, run_equal_pointer_nil w T _ hp]
theorem r_sleqT {T te s T' n c : Nat} (hT : slT P T = some (te, s)) (hx : ρ x = .slice none n c) (hy : ρ y = .slice none 0 0) : (execOp ρ ⟨d, .binOp .eql T x y T', ty, pos, af, g⟩).run P w = .ok (.value (.bool true)) w := by
  simp only [execOp, hx, hy]
  simp [eqGuard, Go.Lib.run_eql_slice_nil w T te none n c 0 0 (slT_spec hT).1]
theorem r_sleqF {T te s T' n c : Nat} {a : Addr} (hT : slT P T = some (te, s)) (hx : ρ x = .slice (some a) n c) (hy : ρ y = .slice none 0 0) : (execOp ρ ⟨d, .binOp .eql T x y T', ty, pos, af, g⟩).run P w = .ok (.value (.bool false)) w := by
  simp only [execOp, hx, hy]
  simp [eqGuard, Go.Lib.run_eql_slice_nil w T te (some a) n c 0 0 (slT_spec hT).1]
end

/-! ### Items with a number -/
def gather (n : Nat) (f : Nat → List HI) : List HI := (List.range n).flatMap f

theorem gather_at {n i : Nat} (hi : i < n) (f : Nat → List HI) : ∃ R : List HI, ∀ g : Nat → List HI, (∀ j, j ≠ i → g j = f j) → (gather n g).Perm (g i ++ R) := by
  refine ⟨((List.range n).erase i).flatMap f, fun g hg => ?_⟩
  have hm : i ∈ List.range n := List.mem_range.2 hi
  have hp := (List.perm_cons_erase hm)
  unfold gather
  have e : ((List.range n).erase i).flatMap f = ((List.range n).erase i).flatMap g := by
    have : ∀ L : List Nat, i ∉ L → L.flatMap f = L.flatMap g := fun L hL => by
      induction L with
      | nil => rfl
      | cons a L ih =>
        simp only [List.mem_cons, not_or] at hL
        rw [List.flatMap_cons, List.flatMap_cons, ih hL.2, hg a (fun h => hL.1 h.symm)]
    exact this _ (List.nodup_range.not_mem_erase)
  rw [e]
  exact (hp.flatMap_right g)

theorem gather_congr {n : Nat} {f g : Nat → List HI} (h : ∀ i, i < n → f i = g i) : gather n f = gather n g := by
  unfold gather
  have : ∀ L : List Nat, (∀ i, i ∈ L → i < n) → L.flatMap f = L.flatMap g := fun L hL => by
    induction L with
    | nil => rfl
    | cons a L ih => rw [List.flatMap_cons, List.flatMap_cons, h a (hL a (by simp)), ih fun i hi => hL i (by simp [hi])]
  exact this _ fun i hi => List.mem_range.1 hi
theorem gather_nil (n : Nat) : gather n (fun _ => []) = [] := by
  unfold gather
  generalize List.range n = L
  induction L with
  | nil => rfl
  | cons a L ih => rw [List.flatMap_cons, ih]; rfl
end Go.E1
