import Derived.Test.Qxb6500837aDoorD18
set_option linter.unusedVariables false
set_option linter.unusedSimpArgs false
set_option maxRecDepth 20000
namespace Go.Proofs.Qxb6500837aDoor
open Go.RowKit Go.E1 Go.Disk
variable {w0 : World} {L L' l I J : List HI} {w : World} {D : DK} {m : Int} {P : PD} {q : Obj → Prop}

/-- A value that is a slice of these bytes wherever the items stand. -/
def Sees (w0 : World) (I : List HI) (v : Value) (bs : List Int) : Prop := ∃ s : SV, s.v = v ∧ s.bs = bs ∧ s.ok ∧ ∀ l w', I ⊆ l → S0 w0 l w' → s.rd w'
theorem Sees.nil : Sees w0 [] (.slice none 0 0) [] := ⟨SV.nil, rfl, rfl, SV.nil_ok, fun _ _ _ _ => SV.nil_rd _⟩
theorem Sees.mono {v : Value} {bs : List Int} (h : Sees w0 I v bs) (hs : I ⊆ J) : Sees w0 J v bs := by
  obtain ⟨s, h1, h2, h3, h4⟩ := h
  exact ⟨s, h1, h2, h3, fun l w' hl st => h4 l w' (fun x hx => hl (hs hx)) st⟩
theorem Sees.sl {v : Value} {bs : List Int} (h : Sees w0 I v bs) : ∃ a c, v = .slice a bs.length c := by
  obtain ⟨s, h1, h2, h3, h4⟩ := h
  exact ⟨s.a, s.c, by rw [← h1, ← h2]; rfl⟩
theorem Sees.old {s : SV} (h : s.ok) (hr : s.rd w0) : Sees w0 [] s.v s.bs := ⟨s, rfl, rfl, h, fun l w' _ st => sv_old hr st⟩
abbrev iI (bb n : Nat) (f : Nat → Int) : HI := (bb, Row 5 n (fun j => .int .u8 (f j)))
def bytesOf (n : Nat) (f : Nat → Int) : List Int := (List.range n).map f
theorem bytesOf_len {n : Nat} {f : Nat → Int} : (bytesOf n f).length = n := by simp [bytesOf]
theorem bytesOf_get {n i : Nat} {f : Nat → Int} (h : i < n) : (bytesOf n f).getD i 0 = f i := by simp [bytesOf, List.getD_eq_getElem?_getD, List.getElem?_map, List.getElem?_range h]
theorem bytesOf_congr {n : Nat} {f g : Nat → Int} (h : ∀ i, i < n → f i = g i) : bytesOf n f = bytesOf n g := List.map_congr_left fun i hi => h i (List.mem_range.1 hi)
theorem bytesOf_inj {n : Nat} {f g : Nat → Int} (h : bytesOf n f = bytesOf n g) {i : Nat} (hi : i < n) : f i = g i := by rw [← bytesOf_get (f := f) hi, h, bytesOf_get hi]
theorem Sees.cells {bb o n c : Nat} {f : Nat → Int} (hr : ∀ j, 0 ≤ f j ∧ f j < 256) (h1 : n ≤ c) (h2 : c ≤ 9223372036854775807) (hc : ∀ l w', I ⊆ l → S0 w0 l w' → ∀ j, j < n → w'.cell? ⟨bb, o + j, none⟩ = some (.int .u8 (f j))) : Sees w0 I (.slice (some ⟨bb, o, none⟩) n c) (bytesOf n f) := by
  refine ⟨⟨some ⟨bb, o, none⟩, c, bb, o, bytesOf n f⟩, by unfold SV.v; rw [bytesOf_len], rfl, ⟨by rw [bytesOf_len]; exact h1, h2, fun _ => rfl, fun x hx => ?_⟩, fun l w' hl st i hi => ?_⟩
  · obtain ⟨j, _, rfl⟩ := List.mem_map.1 hx
    exact hr j
  · have hi : i < (bytesOf n f).length := hi
    rw [bytesOf_len] at hi
    show w'.cell? ⟨bb, o + i, none⟩ = some (.int .u8 ((bytesOf n f).getD i 0))
    rw [hc l w' hl st i hi, bytesOf_get hi]
theorem Sees.img {bb n : Nat} {f : Nat → Int} (hr : ∀ j, 0 ≤ f j ∧ f j < 256) (h : n ≤ 1000000000000) : Sees w0 [iI bb n f] (.slice (some ⟨bb, 0, none⟩) n n) (bytesOf n f) :=
  Sees.cells hr (Nat.le_refl _) (by omega) fun l w' hl st j hj => by rw [Nat.zero_add]; exact st.cell (hl (List.mem_singleton.2 rfl)) hj
theorem Sees.part {bb n s : Nat} {f : Nat → Int} (hr : ∀ j, 0 ≤ f j ∧ f j < 256) (h : n ≤ 1000000000000) (hs : (s + 1) * 512 ≤ n) : Sees w0 [iI bb n f] (.slice (some ⟨bb, s * 512, none⟩) 512 (n - s * 512)) (bytesOf 512 fun j => f (s * 512 + j)) :=
  Sees.cells (fun j => hr _) (by omega) (by omega) fun l w' hl st j hj => by exact st.cell (hl (List.mem_singleton.2 rfl)) (by omega)

theorem equalS_ok (s t : SV) (hs : s.ok) (ht : t.ok) (hrs : ∀ w', S0 w0 L w' → s.rd w') (hrt : ∀ w', S0 w0 L w' → t.rd w') (st : S0 w0 L w) :
    Calls Tryd.prog 22 #[s.v, t.v] w (Ret fun v w' => (∃ r, v = .bool r ∧ (s.bs = t.bs → r = true)) ∧ S0 w0 L w') := by
  refine enter [s.v, t.v] Tryd.func22 rfl Tryd.ntmps22 rfl ?_
  show WC _ _ _ 10 [] [(0, s.v), (1, t.v)] _
  refine WC.seq fun K650 hK650 => ?_
  -- region 0
  refine WC.region ?_
  -- R0.0 4 := bytes.go:20 assign
  refine WL.v (by first | exact r_assign (v := .bool _) rfl | exact r_assign rfl) rfl rfl rfl ?_
  refine WL.fin hK650 (fun _ _ h => h) ?_
  refine WC.seq fun K651 hK651 => ?_
  -- region 1
  refine WC.region ?_
  -- R1.0 5 := bytes.go:22 move
  refine WL.v (by first | exact r_move (v := .slice _ _ _) rfl | exact r_move rfl) rfl rfl rfl ?_
  -- R1.1 6 := bytes.go:22 convert
  refine WL.v (by exact r_bstr ty_usl29 ty_uint5 ty_ustr9 hs (hrs _ st) rfl) rfl rfl rfl ?_
  -- R1.2 7 := bytes.go:22 move
  refine WL.v (by first | exact r_move (v := .slice _ _ _) rfl | exact r_move rfl) rfl rfl rfl ?_
  -- R1.3 8 := bytes.go:22 convert
  refine WL.v (by exact r_bstr ty_usl29 ty_uint5 ty_ustr9 ht (hrt _ st) rfl) rfl rfl rfl ?_
  -- R1.4 9 := bytes.go:22 binOp
  refine WL.v (by exact r_seql rfl rfl rfl) rfl rfl rfl ?_
  -- R1.5 4 := bytes.go:22 assign
  refine WL.v (by first | exact r_assign (v := .bool _) rfl | exact r_assign rfl) rfl rfl rfl ?_
  refine WL.fin hK651 (fun _ _ h => h) ?_
  refine WC.ret1 Tryd.results22 (fun _ _ h => h) rfl ?_
  exact ⟨_, rfl, ⟨_, rfl, fun h => by rw [h]; simp⟩, st⟩
theorem equal_ok {va vb : Value} {xs ys : List Int} (h1 : Sees w0 I va xs) (h2 : Sees w0 J vb ys) (hi : I ⊆ l) (hj : J ⊆ l) (st : S0 w0 l w) :
    Calls Tryd.prog 22 #[va, vb] w (Ret fun v w' => ∃ r, v = .bool r ∧ (xs = ys → r = true) ∧ S0 w0 l w') := by
  obtain ⟨s, rfl, rfl, hs, hrs⟩ := h1
  obtain ⟨t, rfl, rfl, ht, hrt⟩ := h2
  refine (equalS_ok s t hs ht (fun w' st => hrs l w' hi st) (fun w' st => hrt l w' hj st) st).mono ?_
  rintro e w' ⟨v, rfl, ⟨r, rfl, hr⟩, st⟩
  exact ⟨_, rfl, r, rfl, hr, st⟩

theorem cut_ok {bb o n c s : Nat} (h1 : (s + 1) * 512 ≤ n) (h2 : n ≤ c) (h3 : c ≤ 1000000000000) (st : S0 w0 l w) :
    Calls Tryd.prog 23 #[.slice (some ⟨bb, o, none⟩) n c, .int .i64 (s : Nat)] w (Ret fun v w' => v = .slice (some ⟨bb, o + s * 512, none⟩) 512 (c - s * 512) ∧ S0 w0 l w') := by
  refine enter [.slice (some ⟨bb, o, none⟩) n c, .int .i64 (s : Nat)] Tryd.func23 rfl Tryd.ntmps23 rfl ?_
  show WC _ _ _ 12 [] [(0, .slice (some ⟨bb, o, none⟩) n c), (1, .int .i64 (s : Nat))] _
  refine WC.seq fun K652 hK652 => ?_
  -- region 0
  refine WC.region ?_
  -- R0.0 4 := play.go:93 assign
  refine WL.v (by first | exact r_assign (v := .slice _ _ _) rfl | exact r_assign rfl) rfl rfl rfl ?_
  refine WL.fin hK652 (fun _ _ h => h) ?_
  refine WC.seq fun K653 hK653 => ?_
  -- region 1
  refine WC.region ?_
  -- R1.0 5 := play.go:94 move
  refine WL.v (by first | exact r_move (v := .slice _ _ _) rfl | exact r_move rfl) rfl rfl rfl ?_
  -- R1.1 6 := play.go:94 move
  refine WL.v (by first | exact r_move (v := .int _ _) rfl | exact r_move rfl) rfl rfl rfl ?_
  -- R1.2 7 := play.go:94 binOp
  refine WL.v (by exact r_mul (r := ((s * 512 : Nat) : Int)) rfl rfl ((wi64 (by omega) (by omega)).trans (by omega))) rfl rfl rfl ?_
  -- R1.3 8 := play.go:94 move
  refine WL.v (by first | exact r_move (v := .int _ _) rfl | exact r_move rfl) rfl rfl rfl ?_
  -- R1.4 9 := play.go:94 binOp
  refine WL.v (by exact r_add (r := ((s + 1 : Nat) : Int)) rfl rfl ((wi64 (by omega) (by omega)).trans (by omega))) rfl rfl rfl ?_
  -- R1.5 10 := play.go:94 binOp
  refine WL.v (by exact r_mul (r := (((s + 1) * 512 : Nat) : Int)) rfl rfl ((wi64 (by omega) (by omega)).trans (by omega))) rfl rfl rfl ?_
  -- R1.6 11 := play.go:94 slice
  refine WL.v (v := .slice (some ⟨bb, o + s * 512, none⟩) 512 (c - s * 512)) (by exact r_slE (l := s * 512) (h := (s + 1) * 512) ty_sl29 rfl ⟨_, rfl⟩ ⟨_, rfl⟩ (by omega) (by omega) (by omega)) rfl rfl rfl ?_
  -- R1.7 4 := play.go:94 assign
  refine WL.v (by first | exact r_assign (v := .slice _ _ _) rfl | exact r_assign rfl) rfl rfl rfl ?_
  refine WL.fin hK653 (fun _ _ h => h) ?_
  refine WC.ret1 Tryd.results23 (fun _ _ h => h) rfl ?_
  exact ⟨_, rfl, rfl, st⟩

theorem same_ok {c1 c2 : Int} {va vb : Value} {xs ys : List Int} (hc : c1 = c2) (h1 : Sees w0 I va xs) (h2 : Sees w0 J vb ys) (hi : I ⊆ l) (hj : J ⊆ l) (st : S0 w0 l w) :
    Calls Tryd.prog 13 #[.agg #[.int .i64 c1, va], .agg #[.int .i64 c2, vb]] w (Ret fun v w' => ∃ r, v = .bool r ∧ (xs = ys → r = true) ∧ S0 w0 l w') := by
  obtain ⟨a1, k1, rfl⟩ := h1.sl
  obtain ⟨a2, k2, rfl⟩ := h2.sl
  subst hc
  refine enter [.agg #[.int .i64 c1, .slice a1 xs.length k1], .agg #[.int .i64 c1, .slice a2 ys.length k2]] Tryd.func13 rfl Tryd.ntmps13 rfl ?_
  show WC _ _ _ 17 [] [(0, .agg #[.int .i64 c1, .slice a1 xs.length k1]), (1, .agg #[.int .i64 c1, .slice a2 ys.length k2])] _
  refine WC.seq fun K654 hK654 => ?_
  -- region 0
  refine WC.region ?_
  -- R0.0 2 := play.go:97 box
  first | refine WL.box (m := 2) (vs := [.int _ _, .slice _ _ _]) st rfl rfl rfl rfl rfl rfl ?_ | refine WL.box (m := 2) (vs := [_, _]) st rfl rfl rfl rfl rfl rfl ?_ | refine WL.box st rfl rfl rfl rfl rfl rfl ?_
  intro b2 w st
  -- R0.1 3 := play.go:97 box
  first | refine WL.box (m := 2) (vs := [.int _ _, .slice _ _ _]) st rfl rfl rfl rfl rfl rfl ?_ | refine WL.box (m := 2) (vs := [_, _]) st rfl rfl rfl rfl rfl rfl ?_ | refine WL.box st rfl rfl rfl rfl rfl rfl ?_
  intro b3 w st
  -- R0.2 4 := play.go:97 assign
  refine WL.v (by first | exact r_assign (v := .bool _) rfl | exact r_assign rfl) rfl rfl rfl ?_
  refine WL.fin hK654 (fun _ _ h => h) ?_
  refine WC.seq fun K655 hK655 => ?_
  -- region 1
  refine WC.region ?_
  -- R1.0 5 := play.go:98 fieldAddr
  refine WL.v (by exact r_field ty_fld37_0 rfl) rfl rfl rfl ?_
  -- R1.1 6 := play.go:98 load
  refine WL.v (by exact r_load1 ty_one35 rfl (by first | assumption | exact st.c0 (by first | decide | omega) | exact st.c1 (by first | decide | omega) | exact st.c2 (by first | decide | omega) | exact st.c3 (by first | decide | omega) | exact st.c4 (by first | decide | omega) | exact st.c5 (by first | decide | omega) | exact st.c6 (by first | decide | omega) | exact st.c7 (by first | decide | omega) | exact st.c8 (by first | decide | omega))) rfl rfl rfl ?_
  -- R1.2 7 := play.go:98 fieldAddr
  refine WL.v (by exact r_field ty_fld37_0 rfl) rfl rfl rfl ?_
  -- R1.3 8 := play.go:98 load
  refine WL.v (by exact r_load1 ty_one35 rfl (by first | assumption | exact st.c0 (by first | decide | omega) | exact st.c1 (by first | decide | omega) | exact st.c2 (by first | decide | omega) | exact st.c3 (by first | decide | omega) | exact st.c4 (by first | decide | omega) | exact st.c5 (by first | decide | omega) | exact st.c6 (by first | decide | omega) | exact st.c7 (by first | decide | omega) | exact st.c8 (by first | decide | omega))) rfl rfl rfl ?_
  -- R1.4 9 := play.go:98 binOp
  refine WL.v (by first | exact r_eql rfl rfl (decide_eq_true (by omega)) | exact r_eql rfl rfl (decide_eq_false (by omega)) | exact r_eql rfl rfl rfl) rfl rfl rfl ?_
  -- R1.5 10 := play.go:98 move
  refine WL.v (by first | exact r_move (v := .bool _) rfl | exact r_move rfl) rfl rfl rfl ?_
  -- R1.6 11 := play.go:98 fieldAddr
  refine WL.v (by exact r_field ty_fld37_1 rfl) rfl rfl rfl ?_
  -- R1.7 12 := play.go:98 load
  refine WL.v (by exact r_load1 ty_one29 rfl (by first | assumption | exact st.c0 (by first | decide | omega) | exact st.c1 (by first | decide | omega) | exact st.c2 (by first | decide | omega) | exact st.c3 (by first | decide | omega) | exact st.c4 (by first | decide | omega) | exact st.c5 (by first | decide | omega) | exact st.c6 (by first | decide | omega) | exact st.c7 (by first | decide | omega) | exact st.c8 (by first | decide | omega))) rfl rfl rfl ?_
  -- R1.8 13 := play.go:98 fieldAddr
  refine WL.v (by exact r_field ty_fld37_1 rfl) rfl rfl rfl ?_
  -- R1.9 14 := play.go:98 load
  refine WL.v (by exact r_load1 ty_one29 rfl (by first | assumption | exact st.c0 (by first | decide | omega) | exact st.c1 (by first | decide | omega) | exact st.c2 (by first | decide | omega) | exact st.c3 (by first | decide | omega) | exact st.c4 (by first | decide | omega) | exact st.c5 (by first | decide | omega) | exact st.c6 (by first | decide | omega) | exact st.c7 (by first | decide | omega) | exact st.c8 (by first | decide | omega))) rfl rfl rfl ?_
  -- R1.10 15 := play.go:98 call
  refine WL.call (r_call ty_call22 rfl) rfl rfl rfl (equal_ok h1 h2 (fun x hx => List.mem_cons_of_mem _ (List.mem_cons_of_mem _ (hi hx))) (fun x hx => List.mem_cons_of_mem _ (List.mem_cons_of_mem _ (hj hx))) st) ?_
  rintro _ w ⟨r, rfl, hr, st⟩
  -- R1.11 16 := play.go:98 pick
  refine WL.v (by first | exact r_pickT (v := .bool _) rfl rfl | exact r_pickF (v := .bool _) rfl rfl) rfl rfl rfl ?_
  -- R1.12 4 := play.go:98 assign
  refine WL.v (by first | exact r_assign (v := .bool _) rfl | exact r_assign rfl) rfl rfl rfl ?_
  refine WL.fin hK655 (fun _ _ h => h) ?_
  refine WC.ret1 Tryd.results13 (fun _ _ h => h) rfl ?_
  exact ⟨_, rfl, r, rfl, hr, st.drop.drop⟩

def img (S : Nat → Nat → Int) (j : Nat) : Int := S (j / 512) (j % 512)
theorem spanC_all {sec : Nat} (h1 : 1 ≤ sec) : spanC sec 0 (sec * 512) = 0 := by
  unfold spanC
  rw [if_neg (by omega), if_neg (by omega)]
theorem row_eq {b t n : Nat} {f g : Nat → Value} (h : ∀ k, k < n → f k = g k) : (Row t n f) = Row t n g := by
  funext o
  exact propext ⟨fun ho => ho.congr h, fun ho => ho.congr fun k hk => (h k hk).symm⟩

theorem platter_ok {bs : Nat} (h : Rep D P) (hm : sI bs D.bD ∈ L) (st : S0 w0 (DI D 0 L) w) :
    Calls Tryd.prog 20 #[.pointer (some ⟨bs, 0, none⟩)] w (Ret fun v w' => ∃ bb, v = .slice (some ⟨bb, 0, none⟩) (P.sec * 512) (P.sec * 512) ∧ S0 w0 (iI bb (P.sec * 512) (img P.pc) :: DI D 0 L) w') := by
  have hs := h.sec; have hs1 := h.s1; have hs2 := h.s2
  refine enter [.pointer (some ⟨bs, 0, none⟩)] Tryd.func20 rfl Tryd.ntmps20 rfl ?_
  show WC _ _ _ 20 [] [(0, .pointer (some ⟨bs, 0, none⟩))] _
  refine WC.seq fun K656 hK656 => ?_
  -- region 0
  refine WC.region ?_
  -- R0.0 2 := play.go:74 assign
  refine WL.v (by first | exact r_assign (v := .slice _ _ _) rfl | exact r_assign rfl) rfl rfl rfl ?_
  refine WL.fin hK656 (fun _ _ h => h) ?_
  refine WC.seq fun K657 hK657 => ?_
  -- region 1
  refine WC.region ?_
  -- R1.0 4 := play.go:75 move
  refine WL.v (by first | exact r_move (v := .pointer _) rfl | exact r_move rfl) rfl rfl rfl ?_
  -- R1.1 5 := play.go:75 nilCheck
  refine WL.v (by exact r_nilCheck rfl) rfl rfl rfl ?_
  -- R1.2 6 := play.go:75 fieldAddr
  refine WL.v (by exact r_field ty_fld42_0 rfl) rfl rfl rfl ?_
  -- R1.3 7 := play.go:75 load
  refine WL.v (by exact r_load1 ty_one40 rfl (st.cell (mem_in hm) (by decide))) rfl rfl rfl ?_
  -- R1.4 8 := play.go:75 call
  refine WL.call (r_call ty_call19 rfl) rfl rfl rfl (sectors_ok st) ?_
  rintro _ w ⟨rfl, st⟩
  rw [hs]
  -- R1.5 9 := play.go:75 binOp
  refine WL.v (by exact r_mul (r := ((P.sec * 512 : Nat) : Int)) rfl rfl ((wi64 (by omega) (by omega)).trans (by omega))) rfl rfl rfl ?_
  -- R1.6 10 := play.go:75 makeSlice
  refine WL.make st ty_mk29 ty_zero5 rfl rfl (by first | rfl | omega) (by first | rfl | omega) (by omega) (by omega) (by omega) rfl rfl rfl rfl ?_
  intro b10 w st
  -- R1.7 3 := play.go:75 assign
  refine WL.v (by first | exact r_assign (v := .slice _ _ _) rfl | exact r_assign rfl) rfl rfl rfl ?_
  refine WL.fin hK657 (fun _ _ h => h) ?_
  refine WC.seq fun K658 hK658 => ?_
  refine WC.seq fun K659 hK659 => ?_
  -- region 2
  refine WC.region ?_
  -- R2.0 11 := play.go:76 move
  refine WL.v (by first | exact r_move (v := .pointer _) rfl | exact r_move rfl) rfl rfl rfl ?_
  -- R2.1 12 := play.go:76 nilCheck
  refine WL.v (by exact r_nilCheck rfl) rfl rfl rfl ?_
  -- R2.2 13 := play.go:76 fieldAddr
  refine WL.v (by exact r_field ty_fld42_0 rfl) rfl rfl rfl ?_
  -- R2.3 14 := play.go:76 load
  refine WL.v (by exact r_load1 ty_one40 rfl (st.cell (List.mem_cons_of_mem _ (mem_in hm)) (by decide))) rfl rfl rfl ?_
  -- R2.4 15 := play.go:76 move
  refine WL.v (by first | exact r_move (v := .slice _ _ _) rfl | exact r_move rfl) rfl rfl rfl ?_
  -- R2.5 16 := play.go:76 call
  have st := row1 (g := fun _ => .int .u8 0) st fun k => by simp [zrow, nth, Nat.mod_one]
  refine WL.call (r_call ty_call38 rfl) rfl rfl rfl (peek_ok h 0 (by omega) (P.sec * 512) b10 _ (by omega) (st_in st)) ?_
  rintro _ w ⟨l1, g', hev, hd, st⟩
  have hsp := spanC_all hs1
  obtain ⟨_, rfl, rfl⟩ := hev.resolve_right (fun h => h.1 hsp)
  -- R2.6 17 := play.go:76 binOp
  refine WL.v (by first | exact r_nil_neq ty_ifc70 rfl | exact r_some_neq ty_ifc70 rfl) rfl rfl rfl ?_
  refine WL.fin hK659 (fun _ _ h => h) ?_
  refine WC.condF rfl rfl ?_
  refine WC.skipF hK658 (fun _ _ h => h) ?_
  refine WC.seq fun K660 hK660 => ?_
  -- region 4
  refine WC.region ?_
  -- R4.0 19 := play.go:79 move
  refine WL.v (by first | exact r_move (v := .slice _ _ _) rfl | exact r_move rfl) rfl rfl rfl ?_
  -- R4.1 2 := play.go:79 assign
  refine WL.v (by first | exact r_assign (v := .slice _ _ _) rfl | exact r_assign rfl) rfl rfl rfl ?_
  refine WL.fin hK660 (fun _ _ h => h) ?_
  refine WC.ret1 Tryd.results20 (fun _ _ h => h) rfl ?_
  refine ⟨_, rfl, b10, rfl, ?_⟩
  have st := st_out st
  rw [row_eq (b := 0) (g := fun j => .int .u8 (img P.pc j)) fun k hk => by rw [hd hsp k hk, show (0 : Int).toNat + k / 512 = k / 512 from Nat.zero_add _]; rfl] at st
  exact st

theorem seen_ok {bs : Nat} (h : Rep D P) (hm : sI bs D.bD ∈ L) (st : S0 w0 (DI D 0 L) w) :
    Calls Tryd.prog 21 #[.pointer (some ⟨bs, 0, none⟩)] w (Ret fun v w' => ∃ D', D'.bD = D.bD ∧ Rep D' P ∧ ((P.down = true ∧ v = .slice none 0 0 ∧ S0 w0 (DI D' 0 L) w') ∨ (P.down = false ∧ ∃ bb, v = .slice (some ⟨bb, 0, none⟩) (P.sec * 512) (P.sec * 512) ∧ S0 w0 (iI bb (P.sec * 512) (img (settle P.pc P.pend)) :: DI D' 0 L) w'))) := by
  have hs := h.sec; have hs1 := h.s1; have hs2 := h.s2
  have hsp := spanC_all hs1
  rcases hdn : P.down with _ | _
  · have hrc : readC P 0 (P.sec * 512) = 0 := by unfold readC; rw [hdn]; exact hsp
    refine enter [.pointer (some ⟨bs, 0, none⟩)] Tryd.func21 rfl Tryd.ntmps21 rfl ?_
    show WC _ _ _ 19 [] [(0, .pointer (some ⟨bs, 0, none⟩))] _
    refine WC.seq fun K661 hK661 => ?_
    -- region 0
    refine WC.region ?_
    -- R0.0 2 := play.go:84 assign
    refine WL.v (by first | exact r_assign (v := .slice _ _ _) rfl | exact r_assign rfl) rfl rfl rfl ?_
    refine WL.fin hK661 (fun _ _ h => h) ?_
    refine WC.seq fun K662 hK662 => ?_
    -- region 1
    refine WC.region ?_
    -- R1.0 4 := play.go:85 move
    refine WL.v (by first | exact r_move (v := .pointer _) rfl | exact r_move rfl) rfl rfl rfl ?_
    -- R1.1 5 := play.go:85 nilCheck
    refine WL.v (by exact r_nilCheck rfl) rfl rfl rfl ?_
    -- R1.2 6 := play.go:85 fieldAddr
    refine WL.v (by exact r_field ty_fld42_0 rfl) rfl rfl rfl ?_
    -- R1.3 7 := play.go:85 load
    refine WL.v (by exact r_load1 ty_one40 rfl (st.cell (mem_in hm) (by decide))) rfl rfl rfl ?_
    -- R1.4 8 := play.go:85 call
    refine WL.call (r_call ty_call19 rfl) rfl rfl rfl (sectors_ok st) ?_
    rintro _ w ⟨rfl, st⟩
    rw [hs]
    -- R1.5 9 := play.go:85 binOp
    refine WL.v (by exact r_mul (r := ((P.sec * 512 : Nat) : Int)) rfl rfl ((wi64 (by omega) (by omega)).trans (by omega))) rfl rfl rfl ?_
    -- R1.6 10 := play.go:85 makeSlice
    refine WL.make st ty_mk29 ty_zero5 rfl rfl (by first | rfl | omega) (by first | rfl | omega) (by omega) (by omega) (by omega) rfl rfl rfl rfl ?_
    intro b10 w st
    -- R1.7 3 := play.go:85 assign
    refine WL.v (by first | exact r_assign (v := .slice _ _ _) rfl | exact r_assign rfl) rfl rfl rfl ?_
    refine WL.fin hK662 (fun _ _ h => h) ?_
    refine WC.seq fun K663 hK663 => ?_
    refine WC.seq fun K664 hK664 => ?_
    -- region 2
    refine WC.region ?_
    -- R2.0 11 := play.go:86 move
    refine WL.v (by first | exact r_move (v := .pointer _) rfl | exact r_move rfl) rfl rfl rfl ?_
    -- R2.1 12 := play.go:86 nilCheck
    refine WL.v (by exact r_nilCheck rfl) rfl rfl rfl ?_
    -- R2.2 13 := play.go:86 fieldAddr
    refine WL.v (by exact r_field ty_fld42_0 rfl) rfl rfl rfl ?_
    -- R2.3 14 := play.go:86 load
    refine WL.v (by exact r_load1 ty_one40 rfl (st.cell (List.mem_cons_of_mem _ (mem_in hm)) (by decide))) rfl rfl rfl ?_
    -- R2.4 15 := play.go:86 move
    refine WL.v (by first | exact r_move (v := .slice _ _ _) rfl | exact r_move rfl) rfl rfl rfl ?_
    -- R2.5 16 := play.go:86 call
    have st := row1 (g := fun _ => .int .u8 0) st fun k => by simp [zrow, nth, Nat.mod_one]
    refine WL.call (r_call ty_call37 rfl) rfl rfl rfl (read_ok h 0 (by omega) (P.sec * 512) b10 _ (by omega) (st_in st)) ?_
    rintro _ w ⟨D', l1, g', eD, h', hev, hd, st⟩
    obtain ⟨_, rfl, rfl⟩ := hev.resolve_right (fun h => h.1 hrc)
    -- R2.6 17 := play.go:86 binOp
    refine WL.v (by first | exact r_nil_neq ty_ifc70 rfl | exact r_some_neq ty_ifc70 rfl) rfl rfl rfl ?_
    refine WL.fin hK664 (fun _ _ h => h) ?_
    refine WC.condF rfl rfl ?_
    refine WC.skipF hK663 (fun _ _ h => h) ?_
    refine WC.seq fun K665 hK665 => ?_
    -- region 4
    refine WC.region ?_
    -- R4.0 18 := play.go:89 move
    refine WL.v (by first | exact r_move (v := .slice _ _ _) rfl | exact r_move rfl) rfl rfl rfl ?_
    -- R4.1 2 := play.go:89 assign
    refine WL.v (by first | exact r_assign (v := .slice _ _ _) rfl | exact r_assign rfl) rfl rfl rfl ?_
    refine WL.fin hK665 (fun _ _ h => h) ?_
    refine WC.ret1 Tryd.results21 (fun _ _ h => h) rfl ?_
    refine ⟨_, rfl, D', eD, h', .inr ⟨rfl, b10, rfl, ?_⟩⟩
    have st := st_out st
    rw [row_eq (b := 0) (g := fun j => .int .u8 (img (settle P.pc P.pend) j)) fun k hk => by rw [hd hrc k hk, show (0 : Int).toNat + k / 512 = k / 512 from Nat.zero_add _]; rfl] at st
    exact st
  · have hrc : readC P 0 (P.sec * 512) = 3 := by unfold readC; rw [hdn]; rfl
    refine enter [.pointer (some ⟨bs, 0, none⟩)] Tryd.func21 rfl Tryd.ntmps21 rfl ?_
    show WC _ _ _ 19 [] [(0, .pointer (some ⟨bs, 0, none⟩))] _
    refine WC.seq fun K666 hK666 => ?_
    -- region 0
    refine WC.region ?_
    -- R0.0 2 := play.go:84 assign
    refine WL.v (by first | exact r_assign (v := .slice _ _ _) rfl | exact r_assign rfl) rfl rfl rfl ?_
    refine WL.fin hK666 (fun _ _ h => h) ?_
    refine WC.seq fun K667 hK667 => ?_
    -- region 1
    refine WC.region ?_
    -- R1.0 4 := play.go:85 move
    refine WL.v (by first | exact r_move (v := .pointer _) rfl | exact r_move rfl) rfl rfl rfl ?_
    -- R1.1 5 := play.go:85 nilCheck
    refine WL.v (by exact r_nilCheck rfl) rfl rfl rfl ?_
    -- R1.2 6 := play.go:85 fieldAddr
    refine WL.v (by exact r_field ty_fld42_0 rfl) rfl rfl rfl ?_
    -- R1.3 7 := play.go:85 load
    refine WL.v (by exact r_load1 ty_one40 rfl (st.cell (mem_in hm) (by decide))) rfl rfl rfl ?_
    -- R1.4 8 := play.go:85 call
    refine WL.call (r_call ty_call19 rfl) rfl rfl rfl (sectors_ok st) ?_
    rintro _ w ⟨rfl, st⟩
    rw [hs]
    -- R1.5 9 := play.go:85 binOp
    refine WL.v (by exact r_mul (r := ((P.sec * 512 : Nat) : Int)) rfl rfl ((wi64 (by omega) (by omega)).trans (by omega))) rfl rfl rfl ?_
    -- R1.6 10 := play.go:85 makeSlice
    refine WL.make st ty_mk29 ty_zero5 rfl rfl (by first | rfl | omega) (by first | rfl | omega) (by omega) (by omega) (by omega) rfl rfl rfl rfl ?_
    intro b10 w st
    -- R1.7 3 := play.go:85 assign
    refine WL.v (by first | exact r_assign (v := .slice _ _ _) rfl | exact r_assign rfl) rfl rfl rfl ?_
    refine WL.fin hK667 (fun _ _ h => h) ?_
    refine WC.seq fun K668 hK668 => ?_
    refine WC.seq fun K669 hK669 => ?_
    -- region 2
    refine WC.region ?_
    -- R2.0 11 := play.go:86 move
    refine WL.v (by first | exact r_move (v := .pointer _) rfl | exact r_move rfl) rfl rfl rfl ?_
    -- R2.1 12 := play.go:86 nilCheck
    refine WL.v (by exact r_nilCheck rfl) rfl rfl rfl ?_
    -- R2.2 13 := play.go:86 fieldAddr
    refine WL.v (by exact r_field ty_fld42_0 rfl) rfl rfl rfl ?_
    -- R2.3 14 := play.go:86 load
    refine WL.v (by exact r_load1 ty_one40 rfl (st.cell (List.mem_cons_of_mem _ (mem_in hm)) (by decide))) rfl rfl rfl ?_
    -- R2.4 15 := play.go:86 move
    refine WL.v (by first | exact r_move (v := .slice _ _ _) rfl | exact r_move rfl) rfl rfl rfl ?_
    -- R2.5 16 := play.go:86 call
    have st := row1 (g := fun _ => .int .u8 0) st fun k => by simp [zrow, nth, Nat.mod_one]
    refine WL.call (r_call ty_call37 rfl) rfl rfl rfl (read_ok h 0 (by omega) (P.sec * 512) b10 _ (by omega) (st_in st)) ?_
    rintro _ w ⟨D', l1, g', eD, h', hev, hd, st⟩
    rw [hrc] at hev
    obtain ⟨_, be, c2, c3, rfl, rfl⟩ := hev.resolve_left (fun h => by cases h.1)
    -- R2.6 17 := play.go:86 binOp
    refine WL.v (by first | exact r_nil_neq ty_ifc70 rfl | exact r_some_neq ty_ifc70 rfl) rfl rfl rfl ?_
    refine WL.fin hK669 (fun _ _ h => h) ?_
    refine WC.condT rfl rfl ?_
    refine WC.seq fun K670 hK670 => ?_
    -- region 3
    refine WC.region ?_
    -- R3.0 2 := play.go:87 assign
    refine WL.v (by first | exact r_assign (v := .slice _ _ _) rfl | exact r_assign rfl) rfl rfl rfl ?_
    refine WL.fin hK670 (fun _ _ h => h) ?_
    refine WC.ret1 Tryd.results21 (fun _ _ h => h) rfl ?_
    exact ⟨_, rfl, D', eD, h', .inl ⟨rfl, rfl, (st_out st.drop).drop⟩⟩

theorem r_slLo {Pg : Program} {w : World} {ρ : Operand → Value} {d : Option Tmp} {ty : TypeId} {pos : String} {af : Array Edge} {g : Option (Nat × Bool)} {x : Operand} {T e n c l n' c' : Nat} {ao : Option Addr} {lo : Option Operand} (hT : slT Pg T = some (e, 1)) (hx : ρ x = .slice ao n c) (hl : bnd ρ 0 l lo) (h1 : l ≤ n) (h2 : n ≤ c) (e1 : n - l = n') (e2 : c - l = c') :
    (execOp ρ ⟨d, .slice T x lo none none, ty, pos, af, g⟩).run Pg w = .ok (.value (.slice (slA ao l c 1) n' c')) w := by
  have := r_sl (d := d) (ty := ty) (pos := pos) (af := af) (g := g) (w := w) (P := Pg) (h := n) (m := c) (hi := none) (mx := none) hT hx hl rfl rfl (fun _ => rfl) h1 h2 (Nat.le_refl _)
  rw [this, e1, e2]

/-- The sectors of a slice of bytes. -/
def secV (s : SV) (i : Nat) : Value := .slice (some ⟨s.b, s.o + i * 512, none⟩) 512 (s.c - i * 512)

set_option maxHeartbeats 4000000 in
theorem sectorsOf_ok (s : SV) (hs : s.ok) (hl : s.bs.length ≤ 1000000000) (st : S0 w0 l w) :
    Calls Tryd.prog 26 #[.slice s.a s.bs.length s.c] w (Ret fun v w' => ∃ XI f, OwnSl 29 1 v (s.bs.length / 512) XI f ∧ (∀ i, i < s.bs.length / 512 → f i = secV s i) ∧ S0 w0 (XI ++ l) w') := by
  have hle := hs.le; have hcap := hs.cap
  refine enter [.slice s.a s.bs.length s.c] Tryd.func26 rfl Tryd.ntmps26 rfl ?_
  show WC _ _ _ 15 [] [(0, .slice s.a s.bs.length s.c)] _
  refine WC.seq fun K671 hK671 => ?_
  -- region 0
  refine WC.region ?_
  -- R0.0 2 := play.go:102 assign
  refine WL.v (by first | exact r_assign (v := .slice _ _ _) rfl | exact r_assign rfl) rfl rfl rfl ?_
  refine WL.fin hK671 (fun _ _ h => h) ?_
  refine WC.seq fun K672 hK672 => ?_
  -- region 1
  refine WC.region ?_
  -- R1.0 3 := play.go:103 assign
  refine WL.v (by first | exact r_assign (v := .slice _ _ _) rfl | exact r_assign rfl) rfl rfl rfl ?_
  refine WL.fin hK672 (fun _ _ h => h) ?_
  refine WC.seq fun K673 hK673 => ?_
  refine WC.block ?_
  refine WC.loop (ι := Nat × Option Addr × Value × List HI × (Nat → Value)) (fun z => [(0, .slice z.2.1 (s.bs.length - z.1 * 512) (s.c - z.1 * 512)), (3, z.2.2.1)])
    (fun z w' => z.1 * 512 ≤ s.bs.length ∧ (0 < s.bs.length - z.1 * 512 → z.2.1 = some ⟨s.b, s.o + z.1 * 512, none⟩) ∧ OwnSl 29 1 z.2.2.1 z.1 z.2.2.2.1 z.2.2.2.2 ∧ (∀ i, i < z.1 → z.2.2.2.2 i = secV s i) ∧ S0 w0 (z.2.2.2.1 ++ l) w') (fun z => s.bs.length - z.1 * 512)
    (0, s.a, .slice none 0 0, [], fun _ => undef) ⟨by show 0 * 512 ≤ _; omega, fun h => by rw [show s.o + 0 * 512 = s.o by omega]; exact hs.adr (by show 0 < s.bs.length; simpa using h), OwnSl.nil _ _ _, (fun i hi => absurd hi (Nat.not_lt_zero _)), st⟩ ?_ ?_
  · skip
    repeat (first | exact sub_nil _ | refine sub_cons rfl rfl ?_)
  rintro ⟨i, a, v, XI, f⟩ w ⟨h1, h2, h3, h4, st⟩ K1 hK1
  dsimp only at h1 h2 h3 h4 st ⊢
  obtain ⟨oa, oc, ob, rfl, _, _⟩ := h3.form
  by_cases hlt : s.bs.length - i * 512 < 512
  · skip
    refine WC.seq fun K674 hK674 => ?_
    refine WC.seq fun K675 hK675 => ?_
    -- region 2
    refine WC.region ?_
    -- R2.0 4 := play.go:104 move
    refine WL.v (by first | exact r_move (v := .slice _ _ _) rfl | exact r_move rfl) rfl rfl rfl ?_
    -- R2.1 5 := play.go:104 call
    refine WL.v (by exact r_len ty_usl29 rfl) rfl rfl rfl ?_
    -- R2.2 6 := play.go:104 binOp
    refine WL.v (by exact r_geq rfl rfl (decide_eq_false (by omega))) rfl rfl rfl ?_
    refine WL.fin hK675 (fun _ _ h => h) ?_
    refine WC.condF rfl rfl ?_
    refine WC.exitF hK673 (fun _ _ h => h) ?_
    refine WC.seq fun K676 hK676 => ?_
    -- region 5
    refine WC.region ?_
    -- R5.0 14 := play.go:108 move
    refine WL.v (by first | exact r_move (v := .slice _ _ _) rfl | exact r_move rfl) rfl rfl rfl ?_
    -- R5.1 2 := play.go:108 assign
    refine WL.v (by first | exact r_assign (v := .slice _ _ _) rfl | exact r_assign rfl) rfl rfl rfl ?_
    refine WL.fin hK676 (fun _ _ h => h) ?_
    refine WC.ret1 Tryd.results26 (fun _ _ h => h) rfl ?_
    exact ⟨_, rfl, XI, f, by rw [show s.bs.length / 512 = i by omega]; exact h3, fun j hj => h4 j (by omega), st⟩
  obtain rfl := h2 (by omega)
  refine WC.seq fun K677 hK677 => ?_
  refine WC.seq fun K678 hK678 => ?_
  -- region 2
  refine WC.region ?_
  -- R2.0 4 := play.go:104 move
  refine WL.v (by first | exact r_move (v := .slice _ _ _) rfl | exact r_move rfl) rfl rfl rfl ?_
  -- R2.1 5 := play.go:104 call
  refine WL.v (by exact r_len ty_usl29 rfl) rfl rfl rfl ?_
  -- R2.2 6 := play.go:104 binOp
  refine WL.v (by exact r_geq rfl rfl (decide_eq_true (by omega))) rfl rfl rfl ?_
  refine WL.fin hK678 (fun _ _ h => h) ?_
  refine WC.condT rfl rfl ?_
  refine WC.skipF hK677 (fun _ _ h => h) ?_
  refine WC.block ?_
  refine WC.seq fun K679 hK679 => ?_
  -- region 3
  refine WC.region ?_
  -- R3.0 7 := play.go:105 move
  refine WL.v (by first | exact r_move (v := .slice _ _ _) rfl | exact r_move rfl) rfl rfl rfl ?_
  -- R3.1 8 := play.go:105 move
  refine WL.v (by first | exact r_move (v := .slice _ _ _) rfl | exact r_move rfl) rfl rfl rfl ?_
  -- R3.2 9 := play.go:105 slice
  refine WL.v (v := secV s i) (by exact r_slH (k := 512) ty_sl29 rfl ⟨_, rfl⟩ (Nat.le_refl _) (by omega)) rfl rfl rfl ?_
  -- R3.3 10 := play.go:105 buildSlice
  first | refine WL.mkslice (m := 1) (vs := [.slice _ _ _]) st ty_sl54 ty_zero29 rfl rfl rfl rfl rfl rfl ?_ | refine WL.mkslice (m := 1) (vs := [_]) st ty_sl54 ty_zero29 rfl rfl rfl rfl rfl rfl ?_ | refine WL.mkslice st ty_sl54 ty_zero29 rfl rfl rfl rfl rfl rfl ?_
  intro b10 w st
  -- R3.4 11 := play.go:105 call
  have c10 : ∀ j, j < 1 * 1 → w.cell? ⟨b10, 0 + j, none⟩ = some (secV s i) := fun j hj => by rw [show j = 0 by omega]; exact st.c0 (by decide)
  refine WL.appendO (l := (b10, Row 29 1 (nth [secV s i])) :: l) (m := 1) (c := 1) (bx := b10) (ox := 0) (news := fun _ => secV s i) h3 (st.perm List.perm_middle.symm) ty_mk54 ty_zero29 rfl (by decide) rfl rfl (by decide) c10 (fun _ _ => rfl) (by omega) (by omega) rfl rfl rfl ?_
  intro v' XI' f' w h3' st hf1 hf2
  have st := (st_mid st).drop
  obtain ⟨oa', oc', ob', rfl, _, _⟩ := h3'.form
  -- R3.5 3 := play.go:105 assign
  refine WL.v (by first | exact r_assign (v := .slice _ _ _) rfl | exact r_assign rfl) rfl rfl rfl ?_
  refine WL.fin hK679 (fun _ _ h => h) ?_
  -- region 4
  refine WC.region ?_
  -- R4.0 12 := play.go:106 move
  refine WL.v (by first | exact r_move (v := .slice _ _ _) rfl | exact r_move rfl) rfl rfl rfl ?_
  -- R4.1 13 := play.go:106 slice
  refine WL.v (v := .slice (slA (some ⟨s.b, s.o + i * 512, none⟩) 512 (s.c - i * 512) 1) (s.bs.length - (i + 1) * 512) (s.c - (i + 1) * 512)) (by exact r_slLo (l := 512) ty_sl29 rfl ⟨_, rfl⟩ (by omega) (by omega) (by omega) (by omega)) rfl rfl rfl ?_
  -- R4.2 0 := play.go:106 assign
  refine WL.v (by first | exact r_assign (v := .slice _ _ _) rfl | exact r_assign rfl) rfl rfl rfl ?_
  refine WL.next hK1 (fun _ _ h => h) (i + 1, slA (some ⟨s.b, s.o + i * 512, none⟩) 512 (s.c - i * 512) 1, _, XI', f') ⟨by show (i + 1) * 512 ≤ _; omega, fun hp => ?_, h3', fun j hj => ?_, st⟩ (by show s.bs.length - (i + 1) * 512 < s.bs.length - i * 512; omega) (by repeat (first | exact sub_nil _ | refine sub_cons rfl rfl ?_))
  · have hp : 0 < s.bs.length - (i + 1) * 512 := hp
    show slA (some ⟨s.b, s.o + i * 512, none⟩) 512 (s.c - i * 512) 1 = some ⟨s.b, s.o + (i + 1) * 512, none⟩
    rw [slA_some (by omega), show s.o + i * 512 + 512 * 1 = s.o + (i + 1) * 512 by omega]
  · have hj : j < i + 1 := hj
    show f' j = secV s j
    by_cases hji : j < i
    · rw [hf1 j (by omega), h4 j hji]
    · obtain rfl : j = i := by omega
      have := hf2 0 (by decide)
      rw [show j * 1 + 0 = j by omega] at this
      exact this
end Go.Proofs.Qxb6500837aDoor

