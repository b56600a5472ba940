import Derived.Test.Qxb6500834aGreatDoorK82
set_option linter.unusedVariables false
set_option linter.unusedSimpArgs false
set_option maxRecDepth 20000
namespace Go.Proofs.Qxb6500834aGreatDoor
open Go.RowKit Go.E1 Go.Kern
theorem ty_fld102_3 : fldOff Tryz.prog 102 3 = some 3 := by kernel_rfl
theorem ty_fld102_4 : fldOff Tryz.prog 102 4 = some 4 := by kernel_rfl
open Go.Sort (flatK get_flatK size_flatK putRowK HoldsK PermIn SortedIn grow)
open Go.Shelf
variable {w0 : World} {l X : List HI} {w : World} {s s' s0 : KS} {t r N n : Nat} {qv qv' : Nat → Value}
variable {P : List PQ} {m : MR} {pv tv v : Value} {mb : Nat → Nat} {bm : Nat} {T : List (Nat × Nat × Nat)} {O : Nat → Nat → Option Nat} {held claim : Nat → Nat → Nat}

def toT (p : PQ) : Nat × Nat × Nat := (p.n, p.d, p.t)
def ltQ (x y : PQ) : Bool := ltT (toT x) (toT y)
theorem swoQ : Sort.SWO ltQ where
  irrefl x := swoT.irrefl _
  trans x y z := swoT.trans _ _ _
  ntrans x y z := swoT.ntrans _ _ _
set_option maxHeartbeats 4000000 in
theorem lessQ_ok {b c bv n i j : Nat} {W : World} {d : Nat → PQ} (hs : W.cell? ⟨bv, 0, none⟩ = some (.slice (some ⟨b, 0, none⟩) n c)) (hc : ∀ i, i < n → ∀ k, k < 5 → W.cell? ⟨b, 0 + i * 5 + k, none⟩ = some (pE (d i) k)) (hi : i < n) (hj : j < n) :
    Calls Tryz.prog 120 #[.int .i64 (i : Nat), .int .i64 (j : Nat), .pointer (some ⟨bv, 0, none⟩)] W (Ret fun u w' => u = .bool (ltQ (d i) (d j)) ∧ ∃ q, w' = W.drewN q) := by
  have hW : ∃ q, W = W.drewN q := ⟨0, rfl⟩
  by_cases he : (d i).d = (d j).d
  · have e : ltQ (d i) (d j) = decide ((d i).n < (d j).n) := if_pos he
    refine enter [.int .i64 (i : Nat), .int .i64 (j : Nat), .pointer (some ⟨bv, 0, none⟩)] Tryz.func120 rfl Tryz.ntmps120 rfl ?_
    show WC _ _ _ 39 [] [(0, .int .i64 (i : Nat)), (1, .int .i64 (j : Nat)), (2, .pointer (some ⟨bv, 0, none⟩))] _
    refine WC.seq fun K1001 hK1001 => ?_
    -- region 0
    refine WC.region ?_
    -- R0.0 5 := model.go:338 assign
    refine WL.v (by first | exact r_assign (v := .bool _) rfl | exact r_assign rfl) rfl rfl rfl ?_
    refine WL.fin hK1001 (fun _ _ h => h) ?_
    refine WC.seq fun K1002 hK1002 => ?_
    refine WC.seq fun K1003 hK1003 => ?_
    -- region 1 (draws)
    refine WC.quiet (fun w' => ∃ q, w' = W.drewN q) ty_mixed (by kernel_rfl) (⟨1, rfl⟩) fun Kq hKq => ?_
    -- R1.0 6 := model.go:339 load
    refine QL.v (fun w st => by obtain ⟨q, rfl⟩ := st; exact r_load1 (v := .slice (some ⟨b, 0, none⟩) n c) ty_one96 rfl hs) rfl rfl rfl ?_
    -- R1.1 7 := model.go:339 move
    refine QL.v (fun w st => by first | exact r_move (v := .int _ _) rfl | exact r_move rfl) rfl rfl rfl ?_
    -- R1.2 8 := model.go:339 indexAddr
    refine QL.v (fun w st => by exact r_indexS (j := i) ty_sl96 rfl rfl rfl (by omega)) rfl rfl rfl ?_
    -- R1.3 9 := model.go:339 fieldAddr
    refine QL.v (fun w st => by exact r_field ty_fld102_3 rfl) rfl rfl rfl ?_
    -- R1.4 10 := model.go:339 load
    refine QL.v (fun w st => by obtain ⟨q, rfl⟩ := st; exact r_load1 (v := .int .u64 ((d i).d : Nat)) ty_one26 rfl (hc i (by omega) 3 (by decide))) rfl rfl rfl ?_
    -- R1.5 11 := model.go:339 load
    refine QL.v (fun w st => by obtain ⟨q, rfl⟩ := st; exact r_load1 (v := .slice (some ⟨b, 0, none⟩) n c) ty_one96 rfl hs) rfl rfl rfl ?_
    -- R1.6 12 := model.go:339 move
    refine QL.v (fun w st => by first | exact r_move (v := .int _ _) rfl | exact r_move rfl) rfl rfl rfl ?_
    -- R1.7 13 := model.go:339 indexAddr
    refine QL.v (fun w st => by exact r_indexS (j := j) ty_sl96 rfl rfl rfl (by omega)) rfl rfl rfl ?_
    -- R1.8 14 := model.go:339 fieldAddr
    refine QL.v (fun w st => by exact r_field ty_fld102_3 rfl) rfl rfl rfl ?_
    -- R1.9 15 := model.go:339 load
    refine QL.v (fun w st => by obtain ⟨q, rfl⟩ := st; exact r_load1 (v := .int .u64 ((d j).d : Nat)) ty_one26 rfl (hc j (by omega) 3 (by decide))) rfl rfl rfl ?_
    -- R1.10 16 := model.go:339 binOp
    refine QL.v (fun w st => by first | exact r_neq rfl rfl (decide_eq_true (by omega)) | exact r_neq rfl rfl (decide_eq_false (by omega)) | exact r_neq rfl rfl rfl) rfl rfl rfl ?_
    refine QL.wlC hKq fun w st => ?_
    refine WL.fin hK1003 (fun _ _ h => h) ?_
    refine WC.condF rfl rfl ?_
    refine WC.skipF hK1002 (fun _ _ h => h) ?_
    refine WC.seq fun K1004 hK1004 => ?_
    -- region 3 (draws)
    refine WC.quiet (fun w' => ∃ q, w' = W.drewN q) ty_mixed (by kernel_rfl) (by obtain ⟨q, rfl⟩ := st; exact ⟨q + 1, rfl⟩) fun Kq hKq => ?_
    -- R3.0 28 := model.go:342 load
    refine QL.v (fun w st => by obtain ⟨q, rfl⟩ := st; exact r_load1 (v := .slice (some ⟨b, 0, none⟩) n c) ty_one96 rfl hs) rfl rfl rfl ?_
    -- R3.1 29 := model.go:342 move
    refine QL.v (fun w st => by first | exact r_move (v := .int _ _) rfl | exact r_move rfl) rfl rfl rfl ?_
    -- R3.2 30 := model.go:342 indexAddr
    refine QL.v (fun w st => by exact r_indexS (j := i) ty_sl96 rfl rfl rfl (by omega)) rfl rfl rfl ?_
    -- R3.3 31 := model.go:342 fieldAddr
    refine QL.v (fun w st => by exact r_field ty_fld102_4 rfl) rfl rfl rfl ?_
    -- R3.4 32 := model.go:342 load
    refine QL.v (fun w st => by obtain ⟨q, rfl⟩ := st; exact r_load1 (v := .int .u64 ((d i).n : Nat)) ty_one26 rfl (hc i (by omega) 4 (by decide))) rfl rfl rfl ?_
    -- R3.5 33 := model.go:342 load
    refine QL.v (fun w st => by obtain ⟨q, rfl⟩ := st; exact r_load1 (v := .slice (some ⟨b, 0, none⟩) n c) ty_one96 rfl hs) rfl rfl rfl ?_
    -- R3.6 34 := model.go:342 move
    refine QL.v (fun w st => by first | exact r_move (v := .int _ _) rfl | exact r_move rfl) rfl rfl rfl ?_
    -- R3.7 35 := model.go:342 indexAddr
    refine QL.v (fun w st => by exact r_indexS (j := j) ty_sl96 rfl rfl rfl (by omega)) rfl rfl rfl ?_
    -- R3.8 36 := model.go:342 fieldAddr
    refine QL.v (fun w st => by exact r_field ty_fld102_4 rfl) rfl rfl rfl ?_
    -- R3.9 37 := model.go:342 load
    refine QL.v (fun w st => by obtain ⟨q, rfl⟩ := st; exact r_load1 (v := .int .u64 ((d j).n : Nat)) ty_one26 rfl (hc j (by omega) 4 (by decide))) rfl rfl rfl ?_
    -- R3.10 38 := model.go:342 binOp
    refine QL.v (fun w st => by exact r_lss (t := ltQ (d i) (d j)) rfl rfl (by rw [e, decide_eq_decide]; omega)) rfl rfl rfl ?_
    -- R3.11 5 := model.go:342 assign
    refine QL.v (fun w st => by first | exact r_assign (v := .bool _) rfl | exact r_assign rfl) rfl rfl rfl ?_
    refine QL.wlC hKq fun w st => ?_
    refine WL.fin hK1004 (fun _ _ h => h) ?_
    refine WC.ret1 Tryz.results120 (fun _ _ h => h) rfl ?_
    exact ⟨_, rfl, rfl, st⟩
  · have e : ltQ (d i) (d j) = decide ((d i).d < (d j).d) := if_neg he
    refine enter [.int .i64 (i : Nat), .int .i64 (j : Nat), .pointer (some ⟨bv, 0, none⟩)] Tryz.func120 rfl Tryz.ntmps120 rfl ?_
    show WC _ _ _ 39 [] [(0, .int .i64 (i : Nat)), (1, .int .i64 (j : Nat)), (2, .pointer (some ⟨bv, 0, none⟩))] _
    refine WC.seq fun K1005 hK1005 => ?_
    -- region 0
    refine WC.region ?_
    -- R0.0 5 := model.go:338 assign
    refine WL.v (by first | exact r_assign (v := .bool _) rfl | exact r_assign rfl) rfl rfl rfl ?_
    refine WL.fin hK1005 (fun _ _ h => h) ?_
    refine WC.seq fun K1006 hK1006 => ?_
    refine WC.seq fun K1007 hK1007 => ?_
    -- region 1 (draws)
    refine WC.quiet (fun w' => ∃ q, w' = W.drewN q) ty_mixed (by kernel_rfl) (⟨1, rfl⟩) fun Kq hKq => ?_
    -- R1.0 6 := model.go:339 load
    refine QL.v (fun w st => by obtain ⟨q, rfl⟩ := st; exact r_load1 (v := .slice (some ⟨b, 0, none⟩) n c) ty_one96 rfl hs) rfl rfl rfl ?_
    -- R1.1 7 := model.go:339 move
    refine QL.v (fun w st => by first | exact r_move (v := .int _ _) rfl | exact r_move rfl) rfl rfl rfl ?_
    -- R1.2 8 := model.go:339 indexAddr
    refine QL.v (fun w st => by exact r_indexS (j := i) ty_sl96 rfl rfl rfl (by omega)) rfl rfl rfl ?_
    -- R1.3 9 := model.go:339 fieldAddr
    refine QL.v (fun w st => by exact r_field ty_fld102_3 rfl) rfl rfl rfl ?_
    -- R1.4 10 := model.go:339 load
    refine QL.v (fun w st => by obtain ⟨q, rfl⟩ := st; exact r_load1 (v := .int .u64 ((d i).d : Nat)) ty_one26 rfl (hc i (by omega) 3 (by decide))) rfl rfl rfl ?_
    -- R1.5 11 := model.go:339 load
    refine QL.v (fun w st => by obtain ⟨q, rfl⟩ := st; exact r_load1 (v := .slice (some ⟨b, 0, none⟩) n c) ty_one96 rfl hs) rfl rfl rfl ?_
    -- R1.6 12 := model.go:339 move
    refine QL.v (fun w st => by first | exact r_move (v := .int _ _) rfl | exact r_move rfl) rfl rfl rfl ?_
    -- R1.7 13 := model.go:339 indexAddr
    refine QL.v (fun w st => by exact r_indexS (j := j) ty_sl96 rfl rfl rfl (by omega)) rfl rfl rfl ?_
    -- R1.8 14 := model.go:339 fieldAddr
    refine QL.v (fun w st => by exact r_field ty_fld102_3 rfl) rfl rfl rfl ?_
    -- R1.9 15 := model.go:339 load
    refine QL.v (fun w st => by obtain ⟨q, rfl⟩ := st; exact r_load1 (v := .int .u64 ((d j).d : Nat)) ty_one26 rfl (hc j (by omega) 3 (by decide))) rfl rfl rfl ?_
    -- R1.10 16 := model.go:339 binOp
    refine QL.v (fun w st => by first | exact r_neq rfl rfl (decide_eq_true (by omega)) | exact r_neq rfl rfl (decide_eq_false (by omega)) | exact r_neq rfl rfl rfl) rfl rfl rfl ?_
    refine QL.wlC hKq fun w st => ?_
    refine WL.fin hK1007 (fun _ _ h => h) ?_
    refine WC.condT rfl rfl ?_
    refine WC.seq fun K1008 hK1008 => ?_
    -- region 2 (draws)
    refine WC.quiet (fun w' => ∃ q, w' = W.drewN q) ty_mixed (by kernel_rfl) (by obtain ⟨q, rfl⟩ := st; exact ⟨q + 1, rfl⟩) fun Kq hKq => ?_
    -- R2.0 17 := model.go:340 load
    refine QL.v (fun w st => by obtain ⟨q, rfl⟩ := st; exact r_load1 (v := .slice (some ⟨b, 0, none⟩) n c) ty_one96 rfl hs) rfl rfl rfl ?_
    -- R2.1 18 := model.go:340 move
    refine QL.v (fun w st => by first | exact r_move (v := .int _ _) rfl | exact r_move rfl) rfl rfl rfl ?_
    -- R2.2 19 := model.go:340 indexAddr
    refine QL.v (fun w st => by exact r_indexS (j := i) ty_sl96 rfl rfl rfl (by omega)) rfl rfl rfl ?_
    -- R2.3 20 := model.go:340 fieldAddr
    refine QL.v (fun w st => by exact r_field ty_fld102_3 rfl) rfl rfl rfl ?_
    -- R2.4 21 := model.go:340 load
    refine QL.v (fun w st => by obtain ⟨q, rfl⟩ := st; exact r_load1 (v := .int .u64 ((d i).d : Nat)) ty_one26 rfl (hc i (by omega) 3 (by decide))) rfl rfl rfl ?_
    -- R2.5 22 := model.go:340 load
    refine QL.v (fun w st => by obtain ⟨q, rfl⟩ := st; exact r_load1 (v := .slice (some ⟨b, 0, none⟩) n c) ty_one96 rfl hs) rfl rfl rfl ?_
    -- R2.6 23 := model.go:340 move
    refine QL.v (fun w st => by first | exact r_move (v := .int _ _) rfl | exact r_move rfl) rfl rfl rfl ?_
    -- R2.7 24 := model.go:340 indexAddr
    refine QL.v (fun w st => by exact r_indexS (j := j) ty_sl96 rfl rfl rfl (by omega)) rfl rfl rfl ?_
    -- R2.8 25 := model.go:340 fieldAddr
    refine QL.v (fun w st => by exact r_field ty_fld102_3 rfl) rfl rfl rfl ?_
    -- R2.9 26 := model.go:340 load
    refine QL.v (fun w st => by obtain ⟨q, rfl⟩ := st; exact r_load1 (v := .int .u64 ((d j).d : Nat)) ty_one26 rfl (hc j (by omega) 3 (by decide))) rfl rfl rfl ?_
    -- R2.10 27 := model.go:340 binOp
    refine QL.v (fun w st => by exact r_lss (t := ltQ (d i) (d j)) rfl rfl (by rw [e, decide_eq_decide]; omega)) rfl rfl rfl ?_
    -- R2.11 5 := model.go:340 assign
    refine QL.v (fun w st => by first | exact r_assign (v := .bool _) rfl | exact r_assign rfl) rfl rfl rfl ?_
    refine QL.wlC hKq fun w st => ?_
    refine WL.fin hK1008 (fun _ _ h => h) ?_
    refine WC.ret1 Tryz.results120 (fun _ _ h => h) rfl ?_
    exact ⟨_, rfl, rfl, st⟩
set_option linter.unusedSectionVars false
section
variable [Inhabited PQ]
theorem ty_callTick1M : callT Tryz.prog 120 = true := by kernel_rfl
theorem siKQ (n : Nat) (h2 : 2 ≤ n) : Lib.swapperK n ((Tryz.prog.info? 102).get (by kernel_rfl)) 25 = 9 := by
  have a : ((Tryz.prog.info? 102).get (by kernel_rfl)).hasPointers = false := by kernel_rfl
  have b : ((Tryz.prog.info? 102).get (by kernel_rfl)).bytes = 40 := by kernel_rfl
  have c : (n == 0) = false := by simp; omega
  have d : (n == 1) = false := by simp; omega
  simp [Lib.swapperK, a, b, c, d]
def encQ (a : PQ) : List Value := [.int .i64 (a.t : Nat), .int .i64 (a.r : Nat), .int .i64 (a.u : Nat), .int .u64 (a.d : Nat), .int .u64 (a.n : Nat)]
theorem encQ_at {a : PQ} : ∀ k, k < 5 → (encQ a)[k]! = pE a k := fun k hk => by
  match k with
  | 0 | 1 | 2 | 3 | 4 => rfl
  | k + 5 => omega
theorem flatQ_at {d : Array PQ} {i k : Nat} (hi : i < d.size) (hk : k < 5) : (flatK encQ 5 d)[i * 5 + k]! = pE d[i]! k := by
  rw [get_flatK encQ 5 d _ (by omega), show (i * 5 + k) / 5 = i by omega, show (i * 5 + k) % 5 = k by omega, encQ_at k hk]

theorem permInQ_list {d d' : Array PQ} (h : PermIn 0 d.size d d') : d'.toList.Perm d.toList := by
  obtain ⟨h1, _, h3⟩ := h
  have e : d'.extract 0 d.size = d' := by rw [← h1]; exact Array.extract_size
  have e2 : d.extract 0 d.size = d := Array.extract_size
  rw [e, e2] at h3
  exact h3
theorem sortedInQ_list {d d' : Array PQ} (h1 : d'.size = d.size) (h : SortedIn ltQ 0 d.size d') : d'.toList.Pairwise fun x y => ltQ y x = false := by
  rw [List.pairwise_iff_getElem]
  intro i j hi hj hij
  have hi' : i < d'.size := by simpa using hi
  have hj' : j < d'.size := by simpa using hj
  have := h i j (Nat.zero_le _) hij (by omega)
  rw [getElem!_pos d' j hj', getElem!_pos d' i hi'] at this
  simpa using this

theorem sortQ_row {b c bv : Nat} {f : Nat → Value} {D : List PQ} (hc : D.length ≤ c) (hlen : D.length ≤ 1000000) (h2 : 2 ≤ D.length) (hf : ∀ i a, D[i]? = some a → ∀ j, j < 5 → f (i * 5 + j) = pE a j)
    (st : S0 w0 ((b, Row 102 (c * 5) f) :: (bv, Row 96 1 (nth [.slice (some ⟨b, 0, none⟩) D.length c])) :: l) w) :
    Calls Tryz.prog 119 #[.iface 96 (.slice (some ⟨b, 0, none⟩) D.length c), .func (.func 120) #[] #[.pointer (some ⟨bv, 0, none⟩)]] w
      (Ret fun u w' => u = .tuple #[] ∧ ∃ (D' : List PQ) (f' : Nat → Value), D'.Perm D ∧ D'.Pairwise (fun x y => ltQ y x = false) ∧ (∀ i a, D'[i]? = some a → ∀ j, j < 5 → f' (i * 5 + j) = pE a j) ∧
        S0 w0 ((b, Row 102 (c * 5) f') :: (bv, Row 96 1 (nth [.slice (some ⟨b, 0, none⟩) D.length c])) :: l) w') := by
  have hDs : D.toArray.size = D.length := by simp
  have hat : ∀ i, i < D.length → ∃ a, D[i]? = some a ∧ D.toArray[i]! = a := fun i hi => ⟨D[i], List.getElem?_eq_getElem hi, by rw [getElem!_pos D.toArray i (by simpa using hi)]; simp⟩
  have hH : HoldsK encQ 5 w b 0 D.toArray := by
    intro j hj
    rw [size_flatK, hDs] at hj
    have h := (st.setCell (off := j) (by omega) (.bool true)).2
    obtain ⟨a, ha, hb⟩ := hat (j / 5) (by omega)
    refine ⟨?_, by rw [Nat.zero_add]; exact h.2⟩
    rw [Nat.zero_add, h.1]
    have e1 := flatQ_at (d := D.toArray) (i := j / 5) (k := j % 5) (by rw [hDs]; omega) (by omega)
    have e2 := hf (j / 5) a ha (j % 5) (by omega)
    rw [show j / 5 * 5 + j % 5 = j by omega] at e1 e2
    rw [e2]
    show _ = some (id (flatK encQ 5 D.toArray)[j]!)
    rw [e1, hb]; rfl
  have hblk : b < w.heap.size := st.lt (it := (b, Row 102 (c * 5) f)) (by simp)
  have hW : ∀ (m : Nat) (os : Array Obj) (dk : Array PQ), dk.size = D.length → ∃ f', (∀ i, i < D.length → ∀ k, k < 5 → f' (i * 5 + k) = pE dk[i]! k) ∧
      S0 w0 ((b, Row 102 (c * 5) f') :: (bv, Row 96 1 (nth [.slice (some ⟨b, 0, none⟩) D.length c])) :: l) (grow (putRowK encQ 5 (Sort.ahead w m) b 0 dk) os) := fun m os dk hs => by
    refine ⟨_, fun i hi k hk => ?_, ((st.ahead m).putRow (off := 0) (enc := id) (d := flatK encQ 5 dk)).grow os⟩
    rw [upds_eq, if_pos (by rw [size_flatK, hs]; omega), Nat.sub_zero]
    exact flatQ_at (by omega) hk
  have hless : LessReadsK Tryz.prog 120 #[.pointer (some ⟨bv, 0, none⟩)] encQ 5 ltQ b 0 D.toArray.size w := by
    intro m os dk hs i j hi hj
    rw [hDs] at hs hi hj
    obtain ⟨f', hf', st'⟩ := hW m os dk hs
    refine (lessQ_ok (b := b) (c := c) (bv := bv) (n := D.length) (d := fun i => dk[i]!) (st'.front1.c0 (by decide)) (fun i hi k hk => ?_) hi hj).mono ?_
    · rw [st'.c0 (by omega), Nat.zero_add, hf' i hi k hk]
    · rintro e w' ⟨u, rfl, rfl, h⟩
      exact ⟨rfl, h⟩
  have hS := Any.sort_Slice_cells_sorted sl6 96 102 ((Tryz.prog.info? 96).get (by kernel_rfl)) ((Tryz.prog.info? 102).get (by kernel_rfl)) (by kernel_rfl) (by kernel_rfl) (by kernel_rfl) (by kernel_rfl) 25 (fun _ => by kernel_rfl) encQ 5 (fun _ => rfl) (by kernel_rfl) (fun w => Tryz.isAgg102 w)
    (fun x v hv => by simp only [encQ, List.mem_cons, List.not_mem_nil, or_false] at hv; rcases hv with rfl | rfl | rfl | rfl | rfl <;> rfl) ltQ swoQ 120 _
    (fun args w => run_callFunc ty_callTick1M args) b 0 c D.toArray (by rw [hDs]; exact h2) (by rw [hDs]; omega) 176 (by rw [siKQ _ (by rw [hDs]; exact h2)]; kernel_rfl) false
    (fun args W => run_callFunc_extern Tryz.func176 (by kernel_rfl) (by kernel_rfl) (by kernel_rfl) (e := Extern.ReflectliteSwapper.swap false) (by kernel_rfl) args W) _ hless hH hblk
  rw [hDs] at hS
  change Calls Tryz.prog 119 _ _ _ at hS
  refine hS.mono ?_
  rintro e w' ⟨rfl, d', n, os, hp, hso, rfl⟩
  have hp' := hp
  rw [← hDs] at hp hso
  have hsz : d'.size = D.length := by rw [← hDs]; exact hp.1
  obtain ⟨f', hf', st'⟩ := hW n os d' hsz
  refine ⟨_, rfl, rfl, d'.toList, f', permInQ_list hp, sortedInQ_list hp.1 hso, fun i a ha j hj => ?_, st'⟩
  have hi : i < d'.size := by have := (List.getElem?_eq_some_iff.1 ha).1; simpa using this
  rw [hf' i (by omega) j hj, getElem!_pos d' i hi]
  have : d'.toList[i]? = some d'[i] := by simp [hi]
  rw [this] at ha
  cases ha; rfl

end
def sortQ (D : List PQ) : List PQ := D.mergeSort fun x y => !ltQ y x
theorem sortQ_sorted (D : List PQ) : (sortQ D).Pairwise fun x y => ltQ y x = false := by
  have := List.pairwise_mergeSort (le := fun x y => !ltQ y x) (fun a b c h1 h2 => by
    simp only [Bool.not_eq_true'] at h1 h2 ⊢
    exact swoQ.ntrans _ _ _ h2 h1) (fun a b => ltT_total (toT a) (toT b)) D
  exact pw_mono (fun _ _ h => by simpa using h) this
theorem sortQ_perm (D : List PQ) : (sortQ D).Perm D := List.mergeSort_perm _ _
theorem ltT_anti {a b : Nat × Nat × Nat} (h1 : ltT b a = false) (h2 : ltT a b = false) : a.1 = b.1 := by
  unfold ltT at h1 h2
  by_cases e : a.2.1 = b.2.1
  · rw [if_pos e.symm, decide_eq_false_iff_not] at h1
    rw [if_pos e, decide_eq_false_iff_not] at h2
    omega
  · rw [if_neg (fun h => e h.symm), decide_eq_false_iff_not] at h1
    rw [if_neg e, decide_eq_false_iff_not] at h2
    omega
theorem sortQ_uniq {D D' : List PQ} (hd : ∀ a b, a ∈ D → b ∈ D → a.n = b.n → a = b) (hp : D'.Perm D) (hs : D'.Pairwise fun x y => ltQ y x = false) : D' = sortQ D :=
  List.Perm.eq_of_pairwise (le := fun x y => ltQ y x = false) (fun a b ha hb h1 h2 => hd a b (hp.mem_iff.1 ha) ((sortQ_perm D).mem_iff.1 hb) (ltT_anti (a := toT a) (b := toT b) h1 h2)) hs (sortQ_sorted D) (hp.trans (sortQ_perm D).symm)
theorem sortQ_small {D : List PQ} (h : D.length ≤ 1) : sortQ D = D := by
  unfold sortQ
  match D, h with
  | [], _ => simp
  | [x], _ => simp
theorem sortQ_map {D : List PQ} (hd : ∀ a b, a ∈ D → b ∈ D → a.n = b.n → a = b) : (sortQ D).map toT = sortT (D.map toT) := by
  refine sortT_uniq (fun a b ha hb e => ?_) ((sortQ_perm D).map toT) ?_
  · obtain ⟨x, hx, rfl⟩ := List.mem_map.1 ha
    obtain ⟨y, hy, rfl⟩ := List.mem_map.1 hb
    rw [hd x y hx hy e]
  · rw [List.pairwise_map]
    exact sortQ_sorted D
set_option linter.unusedSectionVars false
section
variable [Inhabited PQ]
theorem sortQ_ok {bv : Nat} {D : List PQ} {X : List HI} (ho : PL0 v D X) (hlen : D.length ≤ 1000000) (hd : ∀ a b, a ∈ D → b ∈ D → a.n = b.n → a = b) (st : S0 w0 (X ++ ((bv, Row 96 1 (nth [v])) :: l)) w) :
    Calls Tryz.prog 119 #[.iface 96 v, .func (.func 120) #[] #[.pointer (some ⟨bv, 0, none⟩)]] w
      (Ret fun u w' => u = .tuple #[] ∧ ∃ X', PL0 v (sortQ D) X' ∧ S0 w0 (X' ++ ((bv, Row 96 1 (nth [v])) :: l)) w') := by
  by_cases h2 : 2 ≤ D.length
  · obtain ⟨b, c, f, rfl, hc1, hc2, rfl, hf⟩ := ho.row (by omega)
    refine (sortQ_row hc1 hlen h2 hf st).mono ?_
    rintro e w' ⟨u, rfl, rfl, D', f', hp, hs, hf', st'⟩
    obtain rfl := sortQ_uniq hd hp hs
    refine ⟨_, rfl, rfl, [_], ?_, st'⟩
    rw [← hp.length_eq] at hc1 ⊢
    exact LO.of hc1 hc2 hf'
  · rw [sortQ_small (by omega)]
    obtain ⟨a, c, b, rfl, -, -, -, -⟩ := ho.form
    have hK : Lib.swapperK D.length ((Tryz.prog.info? 102).get (by kernel_rfl)) 25 = D.length + 1 := by
      rcases Nat.eq_zero_or_pos D.length with h | h
      · rw [h]; simp [Lib.swapperK]
      · obtain h : D.length = 1 := by omega
        rw [h]; simp [Lib.swapperK]
    have hS := Any.sort_Slice_tiny sl6 96 102 ((Tryz.prog.info? 96).get (by kernel_rfl)) ((Tryz.prog.info? 102).get (by kernel_rfl)) (by kernel_rfl) (by kernel_rfl) (by kernel_rfl) (by kernel_rfl) 25 (fun _ => by kernel_rfl) a D.length c (by omega) (168 + D.length) (by
      rw [hK]
      rcases Nat.eq_zero_or_pos D.length with h | h
      · rw [h]; kernel_rfl
      · obtain h : D.length = 1 := by omega
        rw [h]; kernel_rfl) (.func 120) #[] #[.pointer (some ⟨bv, 0, none⟩)] w
    refine Calls.mono (show Calls Tryz.prog 119 _ _ _ from hS) ?_
    rintro e w' ⟨rfl, os, rfl⟩
    exact ⟨_, rfl, rfl, X, ho, st.grow os⟩
end
/-! What is due, in the model and in the kernel. -/
def duQ (P : List PQ) (now : Nat) : List PQ := P.filter fun p => decide (p.d ≠ 0) && decide (p.d ≤ now)
theorem duQ_succ {i now : Nat} {q : PQ} (h : P[i]? = some q) : duQ (P.take (i + 1)) now = duQ (P.take i) now ++ (if (decide (q.d ≠ 0) && decide (q.d ≤ now)) = true then [q] else []) := by
  unfold duQ
  rw [List.take_add_one, h, List.filter_append]
  congr 1
  show List.filter _ [q] = _
  rw [List.filter_cons, List.filter_nil]
theorem uniq_t (h : P.Pairwise fun p q => p.t ≠ q.t) {a b : PQ} (ha : a ∈ P) (hb : b ∈ P) (e : a.t = b.t) : a = b := by
  obtain ⟨i, hi⟩ := List.getElem?_of_mem ha
  obtain ⟨j, hj⟩ := List.getElem?_of_mem hb
  obtain ⟨hi1, hi2⟩ := List.getElem?_eq_some_iff.1 hi
  obtain ⟨hj1, hj2⟩ := List.getElem?_eq_some_iff.1 hj
  rcases Nat.lt_trichotomy i j with k | k | k
  · have := List.pairwise_iff_getElem.1 h i j hi1 hj1 k
    rw [hi2, hj2] at this; exact absurd e this
  · subst k; rw [hi] at hj; exact Option.some.inj hj
  · have := List.pairwise_iff_getElem.1 h j i hj1 hi1 k
    rw [hi2, hj2] at this; exact absurd e.symm this
theorem rel_timer (hrel : RelP s P) (ht : TI s []) {p : PQ} (hp : p ∈ P) : (p.d ≠ 0 → p.n ≠ 0) ∧ (p.n ≠ 0 → toT p ∈ s.timers) := by
  have h1 := hrel.d p hp
  have h2 := hrel.l p hp
  have hz := ht.z p.t
  have ha := ht.a p.t h2.1
  rw [List.append_nil] at ha
  refine ⟨fun h k => h (by rw [h1.1]; exact hz (by rw [← h1.2]; exact k)), fun h => ?_⟩
  have := ha (by rw [← h1.2]; exact h)
  unfold toT
  rw [h1.1, h1.2]; exact this
theorem duQ_uniq {now : Nat} (hrel : RelP s P) (ht : TI s []) : ∀ a b, a ∈ duQ P now → b ∈ duQ P now → a.n = b.n → a = b := fun a b ha hb e => by
  have ha1 := List.mem_filter.1 ha
  have hb1 := List.mem_filter.1 hb
  have ha2 := ha1.2
  have hb2 := hb1.2
  simp only [Bool.and_eq_true, decide_eq_true_eq] at ha2 hb2
  have ra := rel_timer hrel ht ha1.1
  have rb := rel_timer hrel ht hb1.1
  have := ht.u (toT a) (toT b) (by rw [List.append_nil]; exact ra.2 (ra.1 ha2.1)) (by rw [List.append_nil]; exact rb.2 (rb.1 hb2.1)) e
  have e2 : a.t = b.t := congrArg (fun x : Nat × Nat × Nat => x.2.2) this
  exact uniq_t hrel.u ha1.1 hb1.1 e2
theorem fired_eq (hB : KB N s) (hI : INV s) (hrel : RelP s P) (ht : TI s []) (hdu : Due s) : (sortQ (duQ P (s.now + 1))).map toT = firedP s := by
  rw [sortQ_map (duQ_uniq hrel ht)]
  have hperm : ((duQ P (s.now + 1)).map toT).Perm (dueP s.timers (s.now + 1)) := by
    refine (List.perm_ext_iff_of_nodup ?_ ?_).2 fun x => ⟨fun hx => ?_, fun hx => ?_⟩
    · refine List.pairwise_map.2 (pw_mono (fun _ _ h e => h (congrArg (fun x : Nat × Nat × Nat => x.2.2) e)) (hrel.u.filter _))
    · exact pw_mono (fun _ _ h e => by rw [e] at h; omega) (hB.td.filter _)
    · obtain ⟨p, hp, rfl⟩ := List.mem_map.1 hx
      have h1 := List.mem_filter.1 hp
      have h2 := h1.2
      simp only [Bool.and_eq_true, decide_eq_true_eq] at h2
      have rp := rel_timer hrel ht h1.1
      exact List.mem_filter.2 ⟨rp.2 (rp.1 h2.1), decide_eq_true h2.2⟩
    · have h1 := List.mem_filter.1 hx
      have h2 := of_decide_eq_true h1.2
      have h3 := ht.d x h1.1
      have h4 := ht.i x h1.1
      have h16 := hB.tt x h1.1
      have hw : (s.tk x.2.2).waiting = true := by
        cases hx : (s.tk x.2.2).waiting with
        | true => rfl
        | false => have := ht.w _ hx; rw [h3.1] at this; exact absurd this h4
      obtain ⟨i, p, hip, hpt⟩ := hrel.busy hI h16 hw
      have hpm := List.mem_of_getElem? hip
      have hd := hrel.d p hpm
      rw [hpt, h3.1, h3.2] at hd
      have hlt := hdu x h1.1
      refine List.mem_map.2 ⟨p, List.mem_filter.2 ⟨hpm, ?_⟩, ?_⟩
      · simp only [Bool.and_eq_true, decide_eq_true_eq]
        rw [hd.1]
        exact ⟨by omega, h2⟩
      · unfold toT
        rw [hd.1, hd.2, hpt]
  unfold firedP
  refine sortT_uniq (fun a b ha hb e => ?_) ((sortT_perm _).trans hperm) (sortT_sorted _)
  exact ht.u a b (by rw [List.append_nil]; exact (List.mem_filter.1 ha).1) (by rw [List.append_nil]; exact (List.mem_filter.1 hb).1) e
theorem Core.keepT {FL : List (Nat × Nat × Nat)} (h : Core FL s s') (a : Nat) (hw : (s'.tk a).waiting = true) : (s'.tk a).timer = (s.tk a).timer :=
  h.row (R := fun T U => U.waiting = true → U.timer = T.timer) (fun _ _ => rfl) (fun _ _ _ k => by cases k) (fun _ _ _ k => by cases k) a hw
end Go.Proofs.Qxb6500834aGreatDoor

