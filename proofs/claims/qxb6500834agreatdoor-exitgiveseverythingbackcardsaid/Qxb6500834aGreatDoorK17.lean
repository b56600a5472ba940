import Derived.Test.Qxb6500834aGreatDoorK16
import Derived.Sort.LotA
set_option linter.unusedVariables false
set_option linter.unusedSimpArgs false
set_option maxRecDepth 20000
namespace Go.Proofs.Qxb6500834aGreatDoor
open Go.RowKit Go.E1 Go.Kern
open Go.Sort (flatK get_flatK size_flatK putRowK HoldsK PermIn SortedIn grow)
variable {w0 : World} {L L' l I J K K' X : List HI} {w : World}
variable {bk br bp bm mode now armed t r : Nat} {tv v : Value} {timers : List (Nat × Nat × Nat)}

theorem swoT : Sort.SWO ltT where
  irrefl x := by unfold ltT; simp
  trans x y z h1 h2 := by
    unfold ltT at *
    by_cases a : x.2.1 = y.2.1 <;> by_cases b : y.2.1 = z.2.1
    · rw [if_pos a, decide_eq_true_eq] at h1
      rw [if_pos b, decide_eq_true_eq] at h2
      rw [if_pos (by omega), decide_eq_true_eq]; omega
    · rw [if_pos a, decide_eq_true_eq] at h1
      rw [if_neg b, decide_eq_true_eq] at h2
      rw [if_neg (by omega), decide_eq_true_eq]; omega
    · rw [if_neg a, decide_eq_true_eq] at h1
      rw [if_pos b, decide_eq_true_eq] at h2
      rw [if_neg (by omega), decide_eq_true_eq]; omega
    · rw [if_neg a, decide_eq_true_eq] at h1
      rw [if_neg b, decide_eq_true_eq] at h2
      rw [if_neg (by omega), decide_eq_true_eq]; omega
  ntrans x y z h1 h2 := by
    unfold ltT at *
    by_cases a : x.2.1 = y.2.1 <;> by_cases b : y.2.1 = z.2.1
    · rw [if_pos a, decide_eq_false_iff_not] at h1
      rw [if_pos b, decide_eq_false_iff_not] at h2
      rw [if_pos (by omega), decide_eq_false_iff_not]; omega
    · rw [if_pos a, decide_eq_false_iff_not] at h1
      rw [if_neg b, decide_eq_false_iff_not] at h2
      rw [if_neg (by omega), decide_eq_false_iff_not]; omega
    · rw [if_neg a, decide_eq_false_iff_not] at h1
      rw [if_pos b, decide_eq_false_iff_not] at h2
      rw [if_neg (by omega), decide_eq_false_iff_not]; omega
    · rw [if_neg a, decide_eq_false_iff_not] at h1
      rw [if_neg b, decide_eq_false_iff_not] at h2
      rw [if_neg (by omega), decide_eq_false_iff_not]; omega
theorem ty_callTick2 : callT Tryz.prog 144 = true := by kernel_rfl
theorem siK (n : Nat) (h2 : 2 ≤ n) : Lib.swapperK n ((Tryz.prog.info? 164).get (by kernel_rfl)) 25 = 9 := by
  have a : ((Tryz.prog.info? 164).get (by kernel_rfl)).hasPointers = false := by kernel_rfl
  have b : ((Tryz.prog.info? 164).get (by kernel_rfl)).bytes = 24 := by kernel_rfl
  have c : (n == 0) = false := by simp; omega
  have d : (n == 1) = false := by simp; omega
  simp [Lib.swapperK, a, b, c, d]
def encT (a : Nat × Nat × Nat) : List Value := [.int .u64 (a.1 : Nat), .int .u64 (a.2.1 : Nat), .int .u64 (a.2.2 : Nat)]
theorem encT_at {a : Nat × Nat × Nat} : ∀ k, k < 3 → (encT a)[k]! = tE a k := fun k hk => by
  match k with
  | 0 | 1 | 2 => rfl
  | k + 3 => omega
theorem flat_at {d : Array (Nat × Nat × Nat)} {i k : Nat} (hi : i < d.size) (hk : k < 3) : (flatK encT 3 d)[i * 3 + k]! = tE d[i]! k := by
  rw [get_flatK encT 3 d _ (by omega), show (i * 3 + k) / 3 = i by omega, show (i * 3 + k) % 3 = k by omega, encT_at k hk]

theorem permIn_list {d d' : Array (Nat × Nat × Nat)} (h : PermIn 0 d.size d d') : d'.toList.Perm d.toList := by
  obtain ⟨h1, _, h3⟩ := h
  have e : d'.extract 0 d.size = d' := by rw [← h1]; exact Array.extract_size
  have e2 : d.extract 0 d.size = d := Array.extract_size
  rw [e, e2] at h3
  exact h3
theorem sortedIn_list {d d' : Array (Nat × Nat × Nat)} (h1 : d'.size = d.size) (h : SortedIn ltT 0 d.size d') : d'.toList.Pairwise fun x y => ltT y x = false := by
  rw [List.pairwise_iff_getElem]
  intro i j hi hj hij
  have hi' : i < d'.size := by simpa using hi
  have hj' : j < d'.size := by simpa using hj
  have := h i j (Nat.zero_le _) hij (by omega)
  rw [getElem!_pos d' j hj', getElem!_pos d' i hi'] at this
  simpa using this

theorem sort_row {b c bv : Nat} {f : Nat → Value} {D : List (Nat × Nat × Nat)} (hc : D.length ≤ c) (hlen : D.length ≤ 1000000) (h2 : 2 ≤ D.length) (hf : ∀ i a, D[i]? = some a → ∀ j, j < 3 → f (i * 3 + j) = tE a j)
    (st : S0 w0 ((b, Row 164 (c * 3) f) :: (bv, Row 145 1 (nth [.slice (some ⟨b, 0, none⟩) D.length c])) :: l) w) :
    Calls Tryz.prog 119 #[.iface 145 (.slice (some ⟨b, 0, none⟩) D.length c), .func (.func 144) #[] #[.pointer (some ⟨bv, 0, none⟩)]] w
      (Ret fun u w' => u = .tuple #[] ∧ ∃ (D' : List (Nat × Nat × Nat)) (f' : Nat → Value), D'.Perm D ∧ D'.Pairwise (fun x y => ltT y x = false) ∧ (∀ i a, D'[i]? = some a → ∀ j, j < 3 → f' (i * 3 + j) = tE a j) ∧
        S0 w0 ((b, Row 164 (c * 3) f') :: (bv, Row 145 1 (nth [.slice (some ⟨b, 0, none⟩) D.length c])) :: l) w') := by
  have hDs : D.toArray.size = D.length := by simp
  have hat : ∀ i, i < D.length → ∃ a, D[i]? = some a ∧ D.toArray[i]! = a := fun i hi => ⟨D[i], List.getElem?_eq_getElem hi, by rw [getElem!_pos D.toArray i (by simpa using hi)]; simp⟩
  have hH : HoldsK encT 3 w b 0 D.toArray := by
    intro j hj
    rw [size_flatK, hDs] at hj
    have h := (st.setCell (off := j) (by omega) (.bool true)).2
    obtain ⟨a, ha, hb⟩ := hat (j / 3) (by omega)
    refine ⟨?_, by rw [Nat.zero_add]; exact h.2⟩
    rw [Nat.zero_add, h.1]
    have e1 := flat_at (d := D.toArray) (i := j / 3) (k := j % 3) (by rw [hDs]; omega) (by omega)
    have e2 := hf (j / 3) a ha (j % 3) (by omega)
    rw [show j / 3 * 3 + j % 3 = j by omega] at e1 e2
    rw [e2]
    show _ = some (id (flatK encT 3 D.toArray)[j]!)
    rw [e1, hb]; rfl
  have hblk : b < w.heap.size := st.lt (it := (b, Row 164 (c * 3) f)) (by simp)
  have hW : ∀ (m : Nat) (os : Array Obj) (dk : Array (Nat × Nat × Nat)), dk.size = D.length → ∃ f', (∀ i, i < D.length → ∀ k, k < 3 → f' (i * 3 + k) = tE dk[i]! k) ∧
      S0 w0 ((b, Row 164 (c * 3) f') :: (bv, Row 145 1 (nth [.slice (some ⟨b, 0, none⟩) D.length c])) :: l) (grow (putRowK encT 3 (Sort.ahead w m) b 0 dk) os) := fun m os dk hs => by
    refine ⟨_, fun i hi k hk => ?_, ((st.ahead m).putRow (off := 0) (enc := id) (d := flatK encT 3 dk)).grow os⟩
    rw [upds_eq, if_pos (by rw [size_flatK, hs]; omega), Nat.sub_zero]
    exact flat_at (by omega) hk
  have hless : LessReadsK Tryz.prog 144 #[.pointer (some ⟨bv, 0, none⟩)] encT 3 ltT b 0 D.toArray.size w := by
    intro m os dk hs i j hi hj
    rw [hDs] at hs hi hj
    obtain ⟨f', hf', st'⟩ := hW m os dk hs
    refine (less_ok (b := b) (c := c) (bv := bv) (n := D.length) (d := fun i => dk[i]!) (st'.front1.c0 (by decide)) (fun i hi k hk => ?_) hi hj).mono ?_
    · rw [st'.c0 (by omega), Nat.zero_add, hf' i hi k hk]
    · rintro e w' ⟨u, rfl, rfl, h⟩
      exact ⟨rfl, h⟩
  have hS := Any.sort_Slice_cells_sorted sl6 145 164 ((Tryz.prog.info? 145).get (by kernel_rfl)) ((Tryz.prog.info? 164).get (by kernel_rfl)) (by kernel_rfl) (by kernel_rfl) (by kernel_rfl) (by kernel_rfl) 25 (fun _ => by kernel_rfl) encT 3 (fun _ => rfl) (by kernel_rfl) (fun w => Tryz.isAgg164 w)
    (fun x v hv => by simp only [encT, List.mem_cons, List.not_mem_nil, or_false] at hv; rcases hv with rfl | rfl | rfl <;> rfl) ltT swoT 144 _
    (fun args w => run_callFunc ty_callTick2 args) b 0 c D.toArray (by rw [hDs]; exact h2) (by rw [hDs]; omega) 176 (by rw [siK _ (by rw [hDs]; exact h2)]; kernel_rfl) false
    (fun args W => run_callFunc_extern Tryz.func176 (by kernel_rfl) (by kernel_rfl) (by kernel_rfl) (e := Extern.ReflectliteSwapper.swap false) (by kernel_rfl) args W) _ hless hH hblk
  rw [hDs] at hS
  change Calls Tryz.prog 119 _ _ _ at hS
  refine hS.mono ?_
  rintro e w' ⟨rfl, d', n, os, hp, hso, rfl⟩
  have hp' := hp
  rw [← hDs] at hp hso
  have hsz : d'.size = D.length := by rw [← hDs]; exact hp.1
  obtain ⟨f', hf', st'⟩ := hW n os d' hsz
  refine ⟨_, rfl, rfl, d'.toList, f', permIn_list hp, sortedIn_list hp.1 hso, fun i a ha j hj => ?_, st'⟩
  have hi : i < d'.size := by have := (List.getElem?_eq_some_iff.1 ha).1; simpa using this
  rw [hf' i (by omega) j hj, getElem!_pos d' i hi]
  have : d'.toList[i]? = some d'[i] := by simp [hi]
  rw [this] at ha
  cases ha; rfl

theorem pw_mono {α : Type} {R S : α → α → Prop} (h : ∀ a b, R a b → S a b) : ∀ {l : List α}, l.Pairwise R → l.Pairwise S
  | [], _ => List.Pairwise.nil
  | a :: l, hp => List.pairwise_cons.2 ⟨fun b hb => h a b ((List.pairwise_cons.1 hp).1 b hb), pw_mono h (List.pairwise_cons.1 hp).2⟩
def sortT (D : List (Nat × Nat × Nat)) : List (Nat × Nat × Nat) := D.mergeSort fun x y => !ltT y x
theorem ltT_total (x y : Nat × Nat × Nat) : (!ltT y x || !ltT x y) = true := by
  cases h : ltT y x with
  | false => rfl
  | true =>
    cases h2 : ltT x y with
    | false => rfl
    | true => have := swoT.trans _ _ _ h h2; rw [swoT.irrefl] at this; cases this
theorem sortT_sorted (D : List (Nat × Nat × Nat)) : (sortT D).Pairwise fun x y => ltT y x = false := by
  have := List.pairwise_mergeSort (le := fun x y => !ltT y x) (fun a b c h1 h2 => by
    simp only [Bool.not_eq_true'] at h1 h2 ⊢
    exact swoT.ntrans _ _ _ h2 h1) (fun a b => ltT_total a b) D
  exact pw_mono (fun _ _ h => by simpa using h) this
theorem sortT_perm (D : List (Nat × Nat × Nat)) : (sortT D).Perm D := List.mergeSort_perm _ _
theorem sortT_uniq {D D' : List (Nat × Nat × Nat)} (hd : ∀ a b, a ∈ D → b ∈ D → a.1 = b.1 → a = b) (hp : D'.Perm D) (hs : D'.Pairwise fun x y => ltT y x = false) : D' = sortT D :=
  List.Perm.eq_of_pairwise (le := fun x y => ltT y x = false) (fun a b ha hb h1 h2 => hd a b (hp.mem_iff.1 ha) ((sortT_perm D).mem_iff.1 hb) (by
    unfold ltT at h1 h2
    by_cases e : a.2.1 = b.2.1
    · rw [if_pos e.symm, decide_eq_false_iff_not] at h1
      rw [if_pos e, decide_eq_false_iff_not] at h2
      omega
    · rw [if_neg (fun h => e h.symm), decide_eq_false_iff_not] at h1
      rw [if_neg e, decide_eq_false_iff_not] at h2
      omega)) hs (sortT_sorted D) (hp.trans (sortT_perm D).symm)
theorem sortT_small {D : List (Nat × Nat × Nat)} (h : D.length ≤ 1) : sortT D = D := by
  unfold sortT
  match D, h with
  | [], _ => simp
  | [x], _ => simp
theorem sort_ok {bv : Nat} {D : List (Nat × Nat × Nat)} {X : List HI} (ho : TL0 v D X) (hlen : D.length ≤ 1000000) (hd : ∀ a b, a ∈ D → b ∈ D → a.1 = b.1 → a = b) (st : S0 w0 (X ++ ((bv, Row 145 1 (nth [v])) :: l)) w) :
    Calls Tryz.prog 119 #[.iface 145 v, .func (.func 144) #[] #[.pointer (some ⟨bv, 0, none⟩)]] w
      (Ret fun u w' => u = .tuple #[] ∧ ∃ X', TL0 v (sortT D) X' ∧ S0 w0 (X' ++ ((bv, Row 145 1 (nth [v])) :: l)) w') := by
  by_cases h2 : 2 ≤ D.length
  · obtain ⟨b, c, f, rfl, hc1, hc2, rfl, hf⟩ := ho.row (by omega)
    refine (sort_row hc1 hlen h2 hf st).mono ?_
    rintro e w' ⟨u, rfl, rfl, D', f', hp, hs, hf', st'⟩
    obtain rfl := sortT_uniq hd hp hs
    refine ⟨_, rfl, rfl, [_], ?_, st'⟩
    rw [← hp.length_eq] at hc1 ⊢
    exact LO.of hc1 hc2 hf'
  · rw [sortT_small (by omega)]
    obtain ⟨a, c, b, rfl, -, -, -, -⟩ := ho.form
    have hK : Lib.swapperK D.length ((Tryz.prog.info? 164).get (by kernel_rfl)) 25 = D.length + 1 := by
      rcases Nat.eq_zero_or_pos D.length with h | h
      · rw [h]; simp [Lib.swapperK]
      · obtain h : D.length = 1 := by omega
        rw [h]; simp [Lib.swapperK]
    have hS := Any.sort_Slice_tiny sl6 145 164 ((Tryz.prog.info? 145).get (by kernel_rfl)) ((Tryz.prog.info? 164).get (by kernel_rfl)) (by kernel_rfl) (by kernel_rfl) (by kernel_rfl) (by kernel_rfl) 25 (fun _ => by kernel_rfl) a D.length c (by omega) (168 + D.length) (by
      rw [hK]
      rcases Nat.eq_zero_or_pos D.length with h | h
      · rw [h]; kernel_rfl
      · obtain h : D.length = 1 := by omega
        rw [h]; kernel_rfl) (.func 144) #[] #[.pointer (some ⟨bv, 0, none⟩)] w
    refine Calls.mono (show Calls Tryz.prog 119 _ _ _ from hS) ?_
    rintro e w' ⟨rfl, os, rfl⟩
    exact ⟨_, rfl, rfl, X, ho, st.grow os⟩
end Go.Proofs.Qxb6500834aGreatDoor

