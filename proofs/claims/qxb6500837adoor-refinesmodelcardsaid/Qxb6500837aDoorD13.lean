import Derived.Test.Qxb6500837aDoorD12
set_option linter.unusedVariables false
set_option linter.unusedSimpArgs false
set_option maxRecDepth 20000
namespace Go.Proofs.Qxb6500837aDoor
open Go.RowKit Go.E1 Go.Disk
variable {w0 : World} {L l : List HI} {w : World} {D : DK} {m : Int} {P : PD} {q : Obj → Prop}

theorem row1 {b t n : Nat} {f g : Nat → Value} (st : S0 w0 ((b, Row t (n * 1) f) :: l) w) (h : ∀ k, f k = g k) : S0 w0 ((b, Row t n g) :: l) w := by
  rw [Nat.mul_one, funext h] at st; exact st

theorem newPlatter_ok (s : Nat) (hs : s ≤ 65536) (st : S0 w0 l w) :
    Calls Tryd.prog 51 #[.int .i64 (s : Nat)] w (Ret fun v w' => ∃ b, v = .agg #[.int .i64 (s : Nat), .slice (some ⟨b, 0, none⟩) ((s + 63) / 64) ((s + 63) / 64)] ∧ S0 w0 ((b, Row 29 ((s + 63) / 64) (exF fun _ => none)) :: l) w') := by
  refine enter [.int .i64 (s : Nat)] Tryd.func51 rfl Tryd.ntmps51 rfl ?_
  show WC _ _ _ 12 [] [(0, .int .i64 (s : Nat))] _
  refine WC.seq fun K376 hK376 => ?_
  -- region 0
  refine WC.region ?_
  -- R0.0 2 := platter.go:15 alloc
  refine WL.alloc (m := 2) st ty_zero91 rfl rfl rfl ?_
  intro b2 w st
  refine WL.fin hK376 (fun _ _ h => h) ?_
  refine WC.seq fun K377 hK377 => ?_
  -- region 1
  refine WC.region ?_
  -- R1.0 4 := platter.go:16 move
  refine WL.v (by first | exact r_move (v := .int _ _) rfl | exact r_move rfl) rfl rfl rfl ?_
  -- R1.1 5 := platter.go:16 binOp
  refine WL.v (by exact r_add (r := ((s + 64 : Nat) : Int)) rfl rfl ((wi64 (by omega) (by omega)).trans (by omega))) rfl rfl rfl ?_
  -- R1.2 6 := platter.go:16 binOp
  refine WL.v (by exact r_sub (r := ((s + 63 : Nat) : Int)) rfl rfl ((wi64 (by omega) (by omega)).trans (by omega))) rfl rfl rfl ?_
  -- R1.3 7 := platter.go:16 binOp
  refine WL.v (by exact r_quo (r := (((s + 63) / 64 : Nat) : Int)) rfl rfl (by omega) (by rw [show ((s + 63 : Nat) : Int).tdiv 64 = (((s + 63) / 64 : Nat) : Int) from rfl]; exact wi64 (by omega) (by omega))) rfl rfl rfl ?_
  -- R1.4 3 := platter.go:16 assign
  refine WL.v (by first | exact r_assign (v := .int _ _) rfl | exact r_assign rfl) rfl rfl rfl ?_
  refine WL.fin hK377 (fun _ _ h => h) ?_
  refine WC.seq fun K378 hK378 => ?_
  -- region 2
  refine WC.region ?_
  -- R2.0 8 := platter.go:17 move
  refine WL.v (by first | exact r_move (v := .int _ _) rfl | exact r_move rfl) rfl rfl rfl ?_
  -- R2.1 9 := platter.go:17 move
  refine WL.v (by first | exact r_move (v := .int _ _) rfl | exact r_move rfl) rfl rfl rfl ?_
  -- R2.2 10 := platter.go:17 makeSlice
  refine WL.make st ty_mk54 ty_zero29 rfl rfl (by first | rfl | omega) (by first | rfl | omega) (by omega) (by omega) (by omega) rfl rfl rfl rfl ?_
  intro b10 w st
  -- R2.3 11 := platter.go:17 build
  refine WL.v (by exact r_build (ps := [(0, .int _ _), (1, .slice _ _ _)]) (vs := [_, _]) ty_pl91 ty_zero91 rfl (fill_step (pv := [_]) (cs' := [_, _]) rfl rfl rfl rfl (fill_step (pv := [_]) (cs' := [_, _]) rfl rfl rfl rfl (fill_nil)))) rfl rfl rfl ?_
  -- R2.4 None := platter.go:17 store
  first | refine WL.storeW (vs := [_, _]) st ty_agg91 rfl rfl rfl rfl rfl rfl ?_ | refine WL.storeL (vs := [_, _]) st ty_agg91 rfl rfl rfl rfl (by first | decide | omega) rfl rfl ?_ | refine WL.storeW (vs := [_, _]) st.front1 ty_agg91 rfl rfl rfl rfl rfl rfl ?_ | refine WL.storeL (vs := [_, _]) st.front1 ty_agg91 rfl rfl rfl rfl (by first | decide | omega) rfl rfl ?_ | refine WL.storeW (vs := [_, _]) st.front2 ty_agg91 rfl rfl rfl rfl rfl rfl ?_ | refine WL.storeL (vs := [_, _]) st.front2 ty_agg91 rfl rfl rfl rfl (by first | decide | omega) rfl rfl ?_ | refine WL.storeW (vs := [_, _]) st.front3 ty_agg91 rfl rfl rfl rfl rfl rfl ?_ | refine WL.storeL (vs := [_, _]) st.front3 ty_agg91 rfl rfl rfl rfl (by first | decide | omega) rfl rfl ?_ | refine WL.storeW (vs := [_, _]) st.front4 ty_agg91 rfl rfl rfl rfl rfl rfl ?_ | refine WL.storeL (vs := [_, _]) st.front4 ty_agg91 rfl rfl rfl rfl (by first | decide | omega) rfl rfl ?_ | refine WL.storeW (vs := [_, _]) st.front5 ty_agg91 rfl rfl rfl rfl rfl rfl ?_ | refine WL.storeL (vs := [_, _]) st.front5 ty_agg91 rfl rfl rfl rfl (by first | decide | omega) rfl rfl ?_ | refine WL.storeW (vs := [_, _]) st.front6 ty_agg91 rfl rfl rfl rfl rfl rfl ?_ | refine WL.storeL (vs := [_, _]) st.front6 ty_agg91 rfl rfl rfl rfl (by first | decide | omega) rfl rfl ?_ | refine WL.storeW (vs := [_, _]) st.front7 ty_agg91 rfl rfl rfl rfl rfl rfl ?_ | refine WL.storeL (vs := [_, _]) st.front7 ty_agg91 rfl rfl rfl rfl (by first | decide | omega) rfl rfl ?_ | refine WL.storeW (vs := [_, _]) st.front8 ty_agg91 rfl rfl rfl rfl rfl rfl ?_ | refine WL.storeL (vs := [_, _]) st.front8 ty_agg91 rfl rfl rfl rfl (by first | decide | omega) rfl rfl ?_
  intro w st
  refine WL.fin hK378 (fun _ _ h => h) ?_
  refine WC.retC (vs := [_, _]) Tryd.results51 (fun _ _ h => h) rfl ty_agg91 rfl ⟨(by first | assumption | exact st.c0 (by first | decide | omega) | exact st.c1 (by first | decide | omega) | exact st.c2 (by first | decide | omega) | exact st.c3 (by first | decide | omega) | exact st.c4 (by first | decide | omega) | exact st.c5 (by first | decide | omega) | exact st.c6 (by first | decide | omega) | exact st.c7 (by first | decide | omega) | exact st.c8 (by first | decide | omega)), (by first | assumption | exact st.c0 (by first | decide | omega) | exact st.c1 (by first | decide | omega) | exact st.c2 (by first | decide | omega) | exact st.c3 (by first | decide | omega) | exact st.c4 (by first | decide | omega) | exact st.c5 (by first | decide | omega) | exact st.c6 (by first | decide | omega) | exact st.c7 (by first | decide | omega) | exact st.c8 (by first | decide | omega)), trivial⟩ ?_
  refine ⟨_, rfl, b10, rfl, ?_⟩
  exact row1 st.drop fun k => by simp [zrow, nth, exF, Nat.mod_one]

theorem newCache_ok (s : Nat) (hs : s ≤ 65536) (st : S0 w0 l w) :
    Calls Tryd.prog 52 #[.int .i64 (s : Nat)] w (Ret fun v w' => ∃ b bm, v = .agg #[.int .i64 (s : Nat), .int .i64 0, .int .i64 0, .slice (some ⟨b, 0, none⟩) ((s + 31) / 32) ((s + 31) / 32), .map (some bm)] ∧ S0 w0 ((b, Row 128 ((s + 31) / 32) (slF fun _ => none)) :: (bm, MapV (keyGood Go.Proofs.Tryd.prog 2) (gOf (nV fun _ => none))) :: l) w') := by
  refine enter [.int .i64 (s : Nat)] Tryd.func52 rfl Tryd.ntmps52 rfl ?_
  show WC _ _ _ 13 [] [(0, .int .i64 (s : Nat))] _
  refine WC.seq fun K379 hK379 => ?_
  -- region 0
  refine WC.region ?_
  -- R0.0 2 := cache.go:26 alloc
  refine WL.alloc (m := 5) st ty_zero95 rfl rfl rfl ?_
  intro b2 w st
  refine WL.fin hK379 (fun _ _ h => h) ?_
  refine WC.seq fun K380 hK380 => ?_
  -- region 1
  refine WC.region ?_
  -- R1.0 4 := cache.go:27 move
  refine WL.v (by first | exact r_move (v := .int _ _) rfl | exact r_move rfl) rfl rfl rfl ?_
  -- R1.1 5 := cache.go:27 binOp
  refine WL.v (by exact r_add (r := ((s + 32 : Nat) : Int)) rfl rfl ((wi64 (by omega) (by omega)).trans (by omega))) rfl rfl rfl ?_
  -- R1.2 6 := cache.go:27 binOp
  refine WL.v (by exact r_sub (r := ((s + 31 : Nat) : Int)) rfl rfl ((wi64 (by omega) (by omega)).trans (by omega))) rfl rfl rfl ?_
  -- R1.3 7 := cache.go:27 binOp
  refine WL.v (by exact r_quo (r := (((s + 31) / 32 : Nat) : Int)) rfl rfl (by omega) (by rw [show ((s + 31 : Nat) : Int).tdiv 32 = (((s + 31) / 32 : Nat) : Int) from rfl]; exact wi64 (by omega) (by omega))) rfl rfl rfl ?_
  -- R1.4 3 := cache.go:27 assign
  refine WL.v (by first | exact r_assign (v := .int _ _) rfl | exact r_assign rfl) rfl rfl rfl ?_
  refine WL.fin hK380 (fun _ _ h => h) ?_
  refine WC.seq fun K381 hK381 => ?_
  -- region 2
  refine WC.region ?_
  -- R2.0 8 := cache.go:28 move
  refine WL.v (by first | exact r_move (v := .int _ _) rfl | exact r_move rfl) rfl rfl rfl ?_
  -- R2.1 9 := cache.go:28 move
  refine WL.v (by first | exact r_move (v := .int _ _) rfl | exact r_move rfl) rfl rfl rfl ?_
  -- R2.2 10 := cache.go:28 makeSlice
  refine WL.make st ty_mk92 ty_zero128 rfl rfl (by first | rfl | omega) (by first | rfl | omega) (by omega) (by omega) (by omega) rfl rfl rfl rfl ?_
  intro b10 w st
  -- R2.3 11 := cache.go:28 makeMap
  refine WL.mkmap (keyGood Tryd.prog 2) st rfl rfl ?_
  intro b11 w st
  -- R2.4 12 := cache.go:28 build
  refine WL.v (by exact r_build (ps := [(0, .int _ _), (3, .slice _ _ _), (4, .map _)]) (vs := [_, _, _, _, _]) ty_pl95 ty_zero95 rfl (fill_step (pv := [_]) (cs' := [_, _, _, _, _]) rfl rfl rfl rfl (fill_step (pv := [_]) (cs' := [_, _, _, _, _]) rfl rfl rfl rfl (fill_step (pv := [_]) (cs' := [_, _, _, _, _]) rfl rfl rfl rfl (fill_nil))))) rfl rfl rfl ?_
  -- R2.5 None := cache.go:28 store
  first | refine WL.storeW (vs := [_, _, _, _, _]) st ty_agg95 rfl rfl rfl rfl rfl rfl ?_ | refine WL.storeL (vs := [_, _, _, _, _]) st ty_agg95 rfl rfl rfl rfl (by first | decide | omega) rfl rfl ?_ | refine WL.storeW (vs := [_, _, _, _, _]) st.front1 ty_agg95 rfl rfl rfl rfl rfl rfl ?_ | refine WL.storeL (vs := [_, _, _, _, _]) st.front1 ty_agg95 rfl rfl rfl rfl (by first | decide | omega) rfl rfl ?_ | refine WL.storeW (vs := [_, _, _, _, _]) st.front2 ty_agg95 rfl rfl rfl rfl rfl rfl ?_ | refine WL.storeL (vs := [_, _, _, _, _]) st.front2 ty_agg95 rfl rfl rfl rfl (by first | decide | omega) rfl rfl ?_ | refine WL.storeW (vs := [_, _, _, _, _]) st.front3 ty_agg95 rfl rfl rfl rfl rfl rfl ?_ | refine WL.storeL (vs := [_, _, _, _, _]) st.front3 ty_agg95 rfl rfl rfl rfl (by first | decide | omega) rfl rfl ?_ | refine WL.storeW (vs := [_, _, _, _, _]) st.front4 ty_agg95 rfl rfl rfl rfl rfl rfl ?_ | refine WL.storeL (vs := [_, _, _, _, _]) st.front4 ty_agg95 rfl rfl rfl rfl (by first | decide | omega) rfl rfl ?_ | refine WL.storeW (vs := [_, _, _, _, _]) st.front5 ty_agg95 rfl rfl rfl rfl rfl rfl ?_ | refine WL.storeL (vs := [_, _, _, _, _]) st.front5 ty_agg95 rfl rfl rfl rfl (by first | decide | omega) rfl rfl ?_ | refine WL.storeW (vs := [_, _, _, _, _]) st.front6 ty_agg95 rfl rfl rfl rfl rfl rfl ?_ | refine WL.storeL (vs := [_, _, _, _, _]) st.front6 ty_agg95 rfl rfl rfl rfl (by first | decide | omega) rfl rfl ?_ | refine WL.storeW (vs := [_, _, _, _, _]) st.front7 ty_agg95 rfl rfl rfl rfl rfl rfl ?_ | refine WL.storeL (vs := [_, _, _, _, _]) st.front7 ty_agg95 rfl rfl rfl rfl (by first | decide | omega) rfl rfl ?_ | refine WL.storeW (vs := [_, _, _, _, _]) st.front8 ty_agg95 rfl rfl rfl rfl rfl rfl ?_ | refine WL.storeL (vs := [_, _, _, _, _]) st.front8 ty_agg95 rfl rfl rfl rfl (by first | decide | omega) rfl rfl ?_
  intro w st
  refine WL.fin hK381 (fun _ _ h => h) ?_
  refine WC.retC (vs := [_, _, _, _, _]) Tryd.results52 (fun _ _ h => h) rfl ty_agg95 rfl ⟨(by first | assumption | exact st.c0 (by first | decide | omega) | exact st.c1 (by first | decide | omega) | exact st.c2 (by first | decide | omega) | exact st.c3 (by first | decide | omega) | exact st.c4 (by first | decide | omega) | exact st.c5 (by first | decide | omega) | exact st.c6 (by first | decide | omega) | exact st.c7 (by first | decide | omega) | exact st.c8 (by first | decide | omega)), (by first | assumption | exact st.c0 (by first | decide | omega) | exact st.c1 (by first | decide | omega) | exact st.c2 (by first | decide | omega) | exact st.c3 (by first | decide | omega) | exact st.c4 (by first | decide | omega) | exact st.c5 (by first | decide | omega) | exact st.c6 (by first | decide | omega) | exact st.c7 (by first | decide | omega) | exact st.c8 (by first | decide | omega)), (by first | assumption | exact st.c0 (by first | decide | omega) | exact st.c1 (by first | decide | omega) | exact st.c2 (by first | decide | omega) | exact st.c3 (by first | decide | omega) | exact st.c4 (by first | decide | omega) | exact st.c5 (by first | decide | omega) | exact st.c6 (by first | decide | omega) | exact st.c7 (by first | decide | omega) | exact st.c8 (by first | decide | omega)), (by first | assumption | exact st.c0 (by first | decide | omega) | exact st.c1 (by first | decide | omega) | exact st.c2 (by first | decide | omega) | exact st.c3 (by first | decide | omega) | exact st.c4 (by first | decide | omega) | exact st.c5 (by first | decide | omega) | exact st.c6 (by first | decide | omega) | exact st.c7 (by first | decide | omega) | exact st.c8 (by first | decide | omega)), (by first | assumption | exact st.c0 (by first | decide | omega) | exact st.c1 (by first | decide | omega) | exact st.c2 (by first | decide | omega) | exact st.c3 (by first | decide | omega) | exact st.c4 (by first | decide | omega) | exact st.c5 (by first | decide | omega) | exact st.c6 (by first | decide | omega) | exact st.c7 (by first | decide | omega) | exact st.c8 (by first | decide | omega)), trivial⟩ ?_
  refine ⟨_, rfl, b10, b11, rfl, ?_⟩
  have st := st.drop.front1
  have st := row1 (g := slF fun _ => none) st fun k => by simp [zrow, nth, slF, Nat.mod_one]
  rw [nV_none, gOf_none]
  exact st

def newD (bD bX bS bM sec lim : Nat) : DK := ⟨bD, bX, bS, bM, fun _ => none, fun _ => none, sec, lim, fun _ _ => 0, 0, 0, fun _ => 0, fun _ _ => 0, fun _ => none, false, false, 0, .slice none 0 0, [], 0, 0, fun _ => 0⟩
theorem new_rep {bD bX bS bM sec lim : Nat} (h1 : 1 ≤ sec) (h2 : sec ≤ 65536) (h3 : 1 ≤ lim) (h4 : lim ≤ 65536) : Rep (newD bD bX bS bM sec lim) (newP sec lim) :=
  { sec := rfl, lim := rfl, s1 := h1, s2 := h2, l1 := h3, l2 := h4, pc := rfl, tl := rfl, hd := rfl, ple := Nat.zero_le _, sx := rfl, wr := Nat.zero_le _, at_ := (fun i p hp => by simp [newP] at hp), N := fun s => rfl,
    psec := (fun p hp => by simp [newP] at hp), pcr := (fun _ _ => by show 0 ≤ (0 : Int) ∧ (0 : Int) < 256; decide), down := rfl, armed := rfl, fuse := rfl, fz := (fun h => by cases h), kv := BR.nil _, kl := Nat.zero_le _, tear := rfl, tb := rfl, ze := fun _ _ _ => rfl, zs := fun _ _ => ⟨rfl, fun _ => rfl⟩ }

theorem orD_ne {x : Int} {d : Nat} (h : d ≠ 0) : orD x d ≠ 0 := by
  unfold orD
  split
  · omega
  · assumption

set_option maxHeartbeats 8000000 in
theorem new_ok (count cache : Int) (st : S0 w0 l w) :
    Calls Tryd.prog 33 #[.agg #[.int .i64 count, .int .i64 cache]] w (Ret fun v w' => (∃ P D, fmtP count cache = some P ∧ Rep D P ∧ v = .tuple #[.pointer (some ⟨D.bD, 0, none⟩), .nilIface] ∧ S0 w0 (DI D 0 l) w') ∨ (fmtP count cache = none ∧ ∃ be c2 c3, v = .tuple #[.pointer none, .iface 101 (.pointer (some ⟨be, 0, none⟩))] ∧ S0 w0 (EI be 1 c2 c3 :: l) w')) := by
  obtain ⟨s, hs⟩ : ∃ s, s = orD count 4096 := ⟨_, rfl⟩
  obtain ⟨c, hc⟩ : ∃ c, c = orD cache 8192 := ⟨_, rfl⟩
  have hs0 : s ≠ 0 := by rw [hs]; exact orD_ne (by decide)
  have hc0 : c ≠ 0 := by rw [hc]; exact orD_ne (by decide)
  have ef : fmtP count cache = if s < 0 ∨ 65536 < s then none else if c < 0 ∨ 65536 < c then none else some (newP s.toNat c.toNat) := by unfold fmtP; rw [hs, hc]
  rw [ef]
  refine enter [.agg #[.int .i64 count, .int .i64 cache]] Tryd.func33 rfl Tryd.ntmps33 rfl ?_
  show WC _ _ _ 42 [] [(0, .agg #[.int .i64 count, .int .i64 cache])] _
  refine WC.seq fun K382 hK382 => ?_
  -- region 0
  refine WC.region ?_
  -- R0.0 1 := disk.go:47 box
  first | refine WL.box (m := 2) (vs := [.int _ _, .int _ _]) st rfl rfl rfl rfl rfl rfl ?_ | refine WL.box (m := 2) (vs := [_, _]) st rfl rfl rfl rfl rfl rfl ?_ | refine WL.box st rfl rfl rfl rfl rfl rfl ?_
  intro b1 w st
  -- R0.1 2 := disk.go:47 assign
  refine WL.v (by first | exact r_assign (v := .pointer _) rfl | exact r_assign rfl) rfl rfl rfl ?_
  -- R0.2 3 := disk.go:47 assign
  refine WL.v (by first | exact r_assign (v := .nilIface) rfl | exact r_assign (v := .iface _ _) rfl | exact r_assign rfl) rfl rfl rfl ?_
  refine WL.fin hK382 (fun _ _ h => h) ?_
  refine WC.cut (ι := Unit) (fun _ => [(1, .pointer (some ⟨b1, 0, none⟩))]) (fun _ w' => S0 w0 ((b1, Row 74 2 (nth [.int .i64 s, .int .i64 cache])) :: l) w') ?_ ?_
  rotate_left
  · intro KC hKC
    by_cases h0 : count = 0
    · have hs : s = 4096 := by rw [hs]; unfold orD; rw [if_pos h0]; rfl
      refine WC.seq fun K383 hK383 => ?_
      -- region 1
      refine WC.region ?_
      -- R1.0 4 := disk.go:48 fieldAddr
      refine WL.v (by exact r_field ty_fld74_0 rfl) rfl rfl rfl ?_
      -- R1.1 5 := disk.go:48 load
      refine WL.v (by exact r_load1 ty_one2 rfl (by first | assumption | exact st.c0 (by first | decide | omega) | exact st.c1 (by first | decide | omega) | exact st.c2 (by first | decide | omega) | exact st.c3 (by first | decide | omega) | exact st.c4 (by first | decide | omega) | exact st.c5 (by first | decide | omega) | exact st.c6 (by first | decide | omega) | exact st.c7 (by first | decide | omega) | exact st.c8 (by first | decide | omega))) rfl rfl rfl ?_
      -- R1.2 6 := disk.go:48 binOp
      refine WL.v (by first | exact r_eql rfl rfl (decide_eq_true (by omega)) | exact r_eql rfl rfl (decide_eq_false (by omega)) | exact r_eql rfl rfl rfl) rfl rfl rfl ?_
      refine WL.fin hK383 (fun _ _ h => h) ?_
      refine WC.condT rfl rfl ?_
      -- region 2
      refine WC.region ?_
      -- R2.0 7 := disk.go:49 fieldAddr
      refine WL.v (by exact r_field ty_fld74_0 rfl) rfl rfl rfl ?_
      -- R2.1 None := disk.go:49 store
      first | refine WL.store (v := .int _ _) st ty_one2 rfl rfl rfl (by first | decide | omega) rfl rfl ?_ | refine WL.store (v := _) st ty_one2 rfl rfl rfl (by first | decide | omega) rfl rfl ?_ | refine WL.store (v := .int _ _) st.front1 ty_one2 rfl rfl rfl (by first | decide | omega) rfl rfl ?_ | refine WL.store (v := _) st.front1 ty_one2 rfl rfl rfl (by first | decide | omega) rfl rfl ?_ | refine WL.store (v := .int _ _) st.front2 ty_one2 rfl rfl rfl (by first | decide | omega) rfl rfl ?_ | refine WL.store (v := _) st.front2 ty_one2 rfl rfl rfl (by first | decide | omega) rfl rfl ?_ | refine WL.store (v := .int _ _) st.front3 ty_one2 rfl rfl rfl (by first | decide | omega) rfl rfl ?_ | refine WL.store (v := _) st.front3 ty_one2 rfl rfl rfl (by first | decide | omega) rfl rfl ?_ | refine WL.store (v := .int _ _) st.front4 ty_one2 rfl rfl rfl (by first | decide | omega) rfl rfl ?_ | refine WL.store (v := _) st.front4 ty_one2 rfl rfl rfl (by first | decide | omega) rfl rfl ?_ | refine WL.store (v := .int _ _) st.front5 ty_one2 rfl rfl rfl (by first | decide | omega) rfl rfl ?_ | refine WL.store (v := _) st.front5 ty_one2 rfl rfl rfl (by first | decide | omega) rfl rfl ?_ | refine WL.store (v := .int _ _) st.front6 ty_one2 rfl rfl rfl (by first | decide | omega) rfl rfl ?_ | refine WL.store (v := _) st.front6 ty_one2 rfl rfl rfl (by first | decide | omega) rfl rfl ?_ | refine WL.store (v := .int _ _) st.front7 ty_one2 rfl rfl rfl (by first | decide | omega) rfl rfl ?_ | refine WL.store (v := _) st.front7 ty_one2 rfl rfl rfl (by first | decide | omega) rfl rfl ?_ | refine WL.store (v := .int _ _) st.front8 ty_one2 rfl rfl rfl (by first | decide | omega) rfl rfl ?_ | refine WL.store (v := _) st.front8 ty_one2 rfl rfl rfl (by first | decide | omega) rfl rfl ?_
      intro w st
      refine WL.join hKC (fun _ _ h => h) () (by rw [hs]; exact st_nrm (L' := [.int .i64 4096, .int .i64 cache]) rfl st) (by repeat (first | exact sub_nil _ | refine sub_cons rfl rfl ?_))
    · have hs : s = count := by rw [hs]; unfold orD; rw [if_neg h0]
      refine WC.seq fun K384 hK384 => ?_
      -- region 1
      refine WC.region ?_
      -- R1.0 4 := disk.go:48 fieldAddr
      refine WL.v (by exact r_field ty_fld74_0 rfl) rfl rfl rfl ?_
      -- R1.1 5 := disk.go:48 load
      refine WL.v (by exact r_load1 ty_one2 rfl (by first | assumption | exact st.c0 (by first | decide | omega) | exact st.c1 (by first | decide | omega) | exact st.c2 (by first | decide | omega) | exact st.c3 (by first | decide | omega) | exact st.c4 (by first | decide | omega) | exact st.c5 (by first | decide | omega) | exact st.c6 (by first | decide | omega) | exact st.c7 (by first | decide | omega) | exact st.c8 (by first | decide | omega))) rfl rfl rfl ?_
      -- R1.2 6 := disk.go:48 binOp
      refine WL.v (by first | exact r_eql rfl rfl (decide_eq_true (by omega)) | exact r_eql rfl rfl (decide_eq_false (by omega)) | exact r_eql rfl rfl rfl) rfl rfl rfl ?_
      refine WL.fin hK384 (fun _ _ h => h) ?_
      refine WC.condF rfl rfl ?_
      refine WC.skipJ hKC (fun _ _ h => h) () (by rw [hs]; exact st) (by repeat (first | exact sub_nil _ | refine sub_cons rfl rfl ?_))
  rintro _ w st
  refine WC.cut (ι := Unit) (fun _ => [(1, .pointer (some ⟨b1, 0, none⟩))]) (fun _ w' => S0 w0 ((b1, Row 74 2 (nth [.int .i64 s, .int .i64 c])) :: l) w') ?_ ?_
  rotate_left
  · intro KC hKC
    by_cases h0 : cache = 0
    · have hc : c = 8192 := by rw [hc]; unfold orD; rw [if_pos h0]; rfl
      refine WC.seq fun K385 hK385 => ?_
      -- region 3
      refine WC.region ?_
      -- R3.0 8 := disk.go:51 fieldAddr
      refine WL.v (by exact r_field ty_fld74_1 rfl) rfl rfl rfl ?_
      -- R3.1 9 := disk.go:51 load
      refine WL.v (by exact r_load1 ty_one2 rfl (by first | assumption | exact st.c0 (by first | decide | omega) | exact st.c1 (by first | decide | omega) | exact st.c2 (by first | decide | omega) | exact st.c3 (by first | decide | omega) | exact st.c4 (by first | decide | omega) | exact st.c5 (by first | decide | omega) | exact st.c6 (by first | decide | omega) | exact st.c7 (by first | decide | omega) | exact st.c8 (by first | decide | omega))) rfl rfl rfl ?_
      -- R3.2 10 := disk.go:51 binOp
      refine WL.v (by first | exact r_eql rfl rfl (decide_eq_true (by omega)) | exact r_eql rfl rfl (decide_eq_false (by omega)) | exact r_eql rfl rfl rfl) rfl rfl rfl ?_
      refine WL.fin hK385 (fun _ _ h => h) ?_
      refine WC.condT rfl rfl ?_
      -- region 4
      refine WC.region ?_
      -- R4.0 11 := disk.go:52 fieldAddr
      refine WL.v (by exact r_field ty_fld74_1 rfl) rfl rfl rfl ?_
      -- R4.1 None := disk.go:52 store
      first | refine WL.store (v := .int _ _) st ty_one2 rfl rfl rfl (by first | decide | omega) rfl rfl ?_ | refine WL.store (v := _) st ty_one2 rfl rfl rfl (by first | decide | omega) rfl rfl ?_ | refine WL.store (v := .int _ _) st.front1 ty_one2 rfl rfl rfl (by first | decide | omega) rfl rfl ?_ | refine WL.store (v := _) st.front1 ty_one2 rfl rfl rfl (by first | decide | omega) rfl rfl ?_ | refine WL.store (v := .int _ _) st.front2 ty_one2 rfl rfl rfl (by first | decide | omega) rfl rfl ?_ | refine WL.store (v := _) st.front2 ty_one2 rfl rfl rfl (by first | decide | omega) rfl rfl ?_ | refine WL.store (v := .int _ _) st.front3 ty_one2 rfl rfl rfl (by first | decide | omega) rfl rfl ?_ | refine WL.store (v := _) st.front3 ty_one2 rfl rfl rfl (by first | decide | omega) rfl rfl ?_ | refine WL.store (v := .int _ _) st.front4 ty_one2 rfl rfl rfl (by first | decide | omega) rfl rfl ?_ | refine WL.store (v := _) st.front4 ty_one2 rfl rfl rfl (by first | decide | omega) rfl rfl ?_ | refine WL.store (v := .int _ _) st.front5 ty_one2 rfl rfl rfl (by first | decide | omega) rfl rfl ?_ | refine WL.store (v := _) st.front5 ty_one2 rfl rfl rfl (by first | decide | omega) rfl rfl ?_ | refine WL.store (v := .int _ _) st.front6 ty_one2 rfl rfl rfl (by first | decide | omega) rfl rfl ?_ | refine WL.store (v := _) st.front6 ty_one2 rfl rfl rfl (by first | decide | omega) rfl rfl ?_ | refine WL.store (v := .int _ _) st.front7 ty_one2 rfl rfl rfl (by first | decide | omega) rfl rfl ?_ | refine WL.store (v := _) st.front7 ty_one2 rfl rfl rfl (by first | decide | omega) rfl rfl ?_ | refine WL.store (v := .int _ _) st.front8 ty_one2 rfl rfl rfl (by first | decide | omega) rfl rfl ?_ | refine WL.store (v := _) st.front8 ty_one2 rfl rfl rfl (by first | decide | omega) rfl rfl ?_
      intro w st
      refine WL.join hKC (fun _ _ h => h) () (by rw [hc]; exact st_nrm (L' := [.int .i64 s, .int .i64 8192]) rfl st) (by repeat (first | exact sub_nil _ | refine sub_cons rfl rfl ?_))
    · have hc : c = cache := by rw [hc]; unfold orD; rw [if_neg h0]
      refine WC.seq fun K386 hK386 => ?_
      -- region 3
      refine WC.region ?_
      -- R3.0 8 := disk.go:51 fieldAddr
      refine WL.v (by exact r_field ty_fld74_1 rfl) rfl rfl rfl ?_
      -- R3.1 9 := disk.go:51 load
      refine WL.v (by exact r_load1 ty_one2 rfl (by first | assumption | exact st.c0 (by first | decide | omega) | exact st.c1 (by first | decide | omega) | exact st.c2 (by first | decide | omega) | exact st.c3 (by first | decide | omega) | exact st.c4 (by first | decide | omega) | exact st.c5 (by first | decide | omega) | exact st.c6 (by first | decide | omega) | exact st.c7 (by first | decide | omega) | exact st.c8 (by first | decide | omega))) rfl rfl rfl ?_
      -- R3.2 10 := disk.go:51 binOp
      refine WL.v (by first | exact r_eql rfl rfl (decide_eq_true (by omega)) | exact r_eql rfl rfl (decide_eq_false (by omega)) | exact r_eql rfl rfl rfl) rfl rfl rfl ?_
      refine WL.fin hK386 (fun _ _ h => h) ?_
      refine WC.condF rfl rfl ?_
      refine WC.skipJ hKC (fun _ _ h => h) () (by rw [hc]; exact st) (by repeat (first | exact sub_nil _ | refine sub_cons rfl rfl ?_))
  rintro _ w st
  by_cases h1 : s < 0
  · skip
    refine WC.seq fun K387 hK387 => ?_
    refine WC.seq fun K388 hK388 => ?_
    -- region 5
    refine WC.region ?_
    -- R5.0 12 := disk.go:54 fieldAddr
    refine WL.v (by exact r_field ty_fld74_0 rfl) rfl rfl rfl ?_
    -- R5.1 13 := disk.go:54 load
    refine WL.v (by exact r_load1 ty_one2 rfl (by first | assumption | exact st.c0 (by first | decide | omega) | exact st.c1 (by first | decide | omega) | exact st.c2 (by first | decide | omega) | exact st.c3 (by first | decide | omega) | exact st.c4 (by first | decide | omega) | exact st.c5 (by first | decide | omega) | exact st.c6 (by first | decide | omega) | exact st.c7 (by first | decide | omega) | exact st.c8 (by first | decide | omega))) rfl rfl rfl ?_
    -- R5.2 14 := disk.go:54 binOp
    refine WL.v (by first | exact r_lss rfl rfl (decide_eq_true (by omega)) | exact r_lss rfl rfl (decide_eq_false (by omega)) | exact r_lss rfl rfl rfl) rfl rfl rfl ?_
    -- R5.3 15 := disk.go:54 move
    refine WL.v (by first | exact r_move (v := .bool _) rfl | exact r_move rfl) rfl rfl rfl ?_
    -- R5.4 16 := disk.go:54 fieldAddr
    refine WL.no rfl rfl ?_
    -- R5.5 17 := disk.go:54 load
    refine WL.no rfl rfl ?_
    -- R5.6 18 := disk.go:54 binOp
    refine WL.no rfl rfl ?_
    -- R5.7 19 := disk.go:54 pick
    refine WL.v (by first | exact r_pickT (v := .bool _) rfl rfl | exact r_pickF (v := .bool _) rfl rfl) rfl rfl rfl ?_
    refine WL.fin hK388 (fun _ _ h => h) ?_
    refine WC.condT rfl rfl ?_
    refine WC.seq fun K389 hK389 => ?_
    -- region 6
    refine WC.region ?_
    -- R6.0 20 := disk.go:55 fieldAddr
    refine WL.v (by exact r_field ty_fld74_0 rfl) rfl rfl rfl ?_
    -- R6.1 21 := disk.go:55 load
    refine WL.v (by exact r_load1 ty_one2 rfl (by first | assumption | exact st.c0 (by first | decide | omega) | exact st.c1 (by first | decide | omega) | exact st.c2 (by first | decide | omega) | exact st.c3 (by first | decide | omega) | exact st.c4 (by first | decide | omega) | exact st.c5 (by first | decide | omega) | exact st.c6 (by first | decide | omega) | exact st.c7 (by first | decide | omega) | exact st.c8 (by first | decide | omega))) rfl rfl rfl ?_
    -- R6.2 22 := disk.go:55 call
    refine WL.call (r_call ty_call50 rfl) rfl rfl rfl (refuse_ok _ _ _ st) ?_
    rintro _ w ⟨be, rfl, st⟩
    -- R6.3 2 := disk.go:55 assign
    refine WL.v (by first | exact r_assign (v := .pointer _) rfl | exact r_assign rfl) rfl rfl rfl ?_
    -- R6.4 3 := disk.go:55 assign
    refine WL.v (by first | exact r_assign (v := .nilIface) rfl | exact r_assign (v := .iface _ _) rfl | exact r_assign rfl) rfl rfl rfl ?_
    refine WL.fin hK389 (fun _ _ h => h) ?_
    refine WC.ret2 Tryd.results33 (fun _ _ h => h) rfl ?_
    exact ⟨_, rfl, .inr ⟨if_pos (.inl h1), be, _, _, rfl, st.drop1⟩⟩
  by_cases h2 : 65536 < s
  · skip
    refine WC.seq fun K390 hK390 => ?_
    refine WC.seq fun K391 hK391 => ?_
    -- region 5
    refine WC.region ?_
    -- R5.0 12 := disk.go:54 fieldAddr
    refine WL.v (by exact r_field ty_fld74_0 rfl) rfl rfl rfl ?_
    -- R5.1 13 := disk.go:54 load
    refine WL.v (by exact r_load1 ty_one2 rfl (by first | assumption | exact st.c0 (by first | decide | omega) | exact st.c1 (by first | decide | omega) | exact st.c2 (by first | decide | omega) | exact st.c3 (by first | decide | omega) | exact st.c4 (by first | decide | omega) | exact st.c5 (by first | decide | omega) | exact st.c6 (by first | decide | omega) | exact st.c7 (by first | decide | omega) | exact st.c8 (by first | decide | omega))) rfl rfl rfl ?_
    -- R5.2 14 := disk.go:54 binOp
    refine WL.v (by first | exact r_lss rfl rfl (decide_eq_true (by omega)) | exact r_lss rfl rfl (decide_eq_false (by omega)) | exact r_lss rfl rfl rfl) rfl rfl rfl ?_
    -- R5.3 15 := disk.go:54 move
    refine WL.v (by first | exact r_move (v := .bool _) rfl | exact r_move rfl) rfl rfl rfl ?_
    -- R5.4 16 := disk.go:54 fieldAddr
    refine WL.v (by exact r_field ty_fld74_0 rfl) rfl rfl rfl ?_
    -- R5.5 17 := disk.go:54 load
    refine WL.v (by exact r_load1 ty_one2 rfl (by first | assumption | exact st.c0 (by first | decide | omega) | exact st.c1 (by first | decide | omega) | exact st.c2 (by first | decide | omega) | exact st.c3 (by first | decide | omega) | exact st.c4 (by first | decide | omega) | exact st.c5 (by first | decide | omega) | exact st.c6 (by first | decide | omega) | exact st.c7 (by first | decide | omega) | exact st.c8 (by first | decide | omega))) rfl rfl rfl ?_
    -- R5.6 18 := disk.go:54 binOp
    refine WL.v (by first | exact r_gtr rfl rfl (decide_eq_true (by omega)) | exact r_gtr rfl rfl (decide_eq_false (by omega)) | exact r_gtr rfl rfl rfl) rfl rfl rfl ?_
    -- R5.7 19 := disk.go:54 pick
    refine WL.v (by first | exact r_pickT (v := .bool _) rfl rfl | exact r_pickF (v := .bool _) rfl rfl) rfl rfl rfl ?_
    refine WL.fin hK391 (fun _ _ h => h) ?_
    refine WC.condT rfl rfl ?_
    refine WC.seq fun K392 hK392 => ?_
    -- region 6
    refine WC.region ?_
    -- R6.0 20 := disk.go:55 fieldAddr
    refine WL.v (by exact r_field ty_fld74_0 rfl) rfl rfl rfl ?_
    -- R6.1 21 := disk.go:55 load
    refine WL.v (by exact r_load1 ty_one2 rfl (by first | assumption | exact st.c0 (by first | decide | omega) | exact st.c1 (by first | decide | omega) | exact st.c2 (by first | decide | omega) | exact st.c3 (by first | decide | omega) | exact st.c4 (by first | decide | omega) | exact st.c5 (by first | decide | omega) | exact st.c6 (by first | decide | omega) | exact st.c7 (by first | decide | omega) | exact st.c8 (by first | decide | omega))) rfl rfl rfl ?_
    -- R6.2 22 := disk.go:55 call
    refine WL.call (r_call ty_call50 rfl) rfl rfl rfl (refuse_ok _ _ _ st) ?_
    rintro _ w ⟨be, rfl, st⟩
    -- R6.3 2 := disk.go:55 assign
    refine WL.v (by first | exact r_assign (v := .pointer _) rfl | exact r_assign rfl) rfl rfl rfl ?_
    -- R6.4 3 := disk.go:55 assign
    refine WL.v (by first | exact r_assign (v := .nilIface) rfl | exact r_assign (v := .iface _ _) rfl | exact r_assign rfl) rfl rfl rfl ?_
    refine WL.fin hK392 (fun _ _ h => h) ?_
    refine WC.ret2 Tryd.results33 (fun _ _ h => h) rfl ?_
    exact ⟨_, rfl, .inr ⟨if_pos (.inr h2), be, _, _, rfl, st.drop1⟩⟩
  by_cases h3 : c < 0
  · skip
    refine WC.seq fun K393 hK393 => ?_
    refine WC.seq fun K394 hK394 => ?_
    -- region 5
    refine WC.region ?_
    -- R5.0 12 := disk.go:54 fieldAddr
    refine WL.v (by exact r_field ty_fld74_0 rfl) rfl rfl rfl ?_
    -- R5.1 13 := disk.go:54 load
    refine WL.v (by exact r_load1 ty_one2 rfl (by first | assumption | exact st.c0 (by first | decide | omega) | exact st.c1 (by first | decide | omega) | exact st.c2 (by first | decide | omega) | exact st.c3 (by first | decide | omega) | exact st.c4 (by first | decide | omega) | exact st.c5 (by first | decide | omega) | exact st.c6 (by first | decide | omega) | exact st.c7 (by first | decide | omega) | exact st.c8 (by first | decide | omega))) rfl rfl rfl ?_
    -- R5.2 14 := disk.go:54 binOp
    refine WL.v (by first | exact r_lss rfl rfl (decide_eq_true (by omega)) | exact r_lss rfl rfl (decide_eq_false (by omega)) | exact r_lss rfl rfl rfl) rfl rfl rfl ?_
    -- R5.3 15 := disk.go:54 move
    refine WL.v (by first | exact r_move (v := .bool _) rfl | exact r_move rfl) rfl rfl rfl ?_
    -- R5.4 16 := disk.go:54 fieldAddr
    refine WL.v (by exact r_field ty_fld74_0 rfl) rfl rfl rfl ?_
    -- R5.5 17 := disk.go:54 load
    refine WL.v (by exact r_load1 ty_one2 rfl (by first | assumption | exact st.c0 (by first | decide | omega) | exact st.c1 (by first | decide | omega) | exact st.c2 (by first | decide | omega) | exact st.c3 (by first | decide | omega) | exact st.c4 (by first | decide | omega) | exact st.c5 (by first | decide | omega) | exact st.c6 (by first | decide | omega) | exact st.c7 (by first | decide | omega) | exact st.c8 (by first | decide | omega))) rfl rfl rfl ?_
    -- R5.6 18 := disk.go:54 binOp
    refine WL.v (by first | exact r_gtr rfl rfl (decide_eq_true (by omega)) | exact r_gtr rfl rfl (decide_eq_false (by omega)) | exact r_gtr rfl rfl rfl) rfl rfl rfl ?_
    -- R5.7 19 := disk.go:54 pick
    refine WL.v (by first | exact r_pickT (v := .bool _) rfl rfl | exact r_pickF (v := .bool _) rfl rfl) rfl rfl rfl ?_
    refine WL.fin hK394 (fun _ _ h => h) ?_
    refine WC.condF rfl rfl ?_
    refine WC.skipF hK393 (fun _ _ h => h) ?_
    refine WC.seq fun K395 hK395 => ?_
    refine WC.seq fun K396 hK396 => ?_
    -- region 7
    refine WC.region ?_
    -- R7.0 23 := disk.go:57 fieldAddr
    refine WL.v (by exact r_field ty_fld74_1 rfl) rfl rfl rfl ?_
    -- R7.1 24 := disk.go:57 load
    refine WL.v (by exact r_load1 ty_one2 rfl (by first | assumption | exact st.c0 (by first | decide | omega) | exact st.c1 (by first | decide | omega) | exact st.c2 (by first | decide | omega) | exact st.c3 (by first | decide | omega) | exact st.c4 (by first | decide | omega) | exact st.c5 (by first | decide | omega) | exact st.c6 (by first | decide | omega) | exact st.c7 (by first | decide | omega) | exact st.c8 (by first | decide | omega))) rfl rfl rfl ?_
    -- R7.2 25 := disk.go:57 binOp
    refine WL.v (by first | exact r_lss rfl rfl (decide_eq_true (by omega)) | exact r_lss rfl rfl (decide_eq_false (by omega)) | exact r_lss rfl rfl rfl) rfl rfl rfl ?_
    -- R7.3 26 := disk.go:57 move
    refine WL.v (by first | exact r_move (v := .bool _) rfl | exact r_move rfl) rfl rfl rfl ?_
    -- R7.4 27 := disk.go:57 fieldAddr
    refine WL.no rfl rfl ?_
    -- R7.5 28 := disk.go:57 load
    refine WL.no rfl rfl ?_
    -- R7.6 29 := disk.go:57 binOp
    refine WL.no rfl rfl ?_
    -- R7.7 30 := disk.go:57 pick
    refine WL.v (by first | exact r_pickT (v := .bool _) rfl rfl | exact r_pickF (v := .bool _) rfl rfl) rfl rfl rfl ?_
    refine WL.fin hK396 (fun _ _ h => h) ?_
    refine WC.condT rfl rfl ?_
    refine WC.seq fun K397 hK397 => ?_
    -- region 8
    refine WC.region ?_
    -- R8.0 31 := disk.go:58 fieldAddr
    refine WL.v (by exact r_field ty_fld74_1 rfl) rfl rfl rfl ?_
    -- R8.1 32 := disk.go:58 load
    refine WL.v (by exact r_load1 ty_one2 rfl (by first | assumption | exact st.c0 (by first | decide | omega) | exact st.c1 (by first | decide | omega) | exact st.c2 (by first | decide | omega) | exact st.c3 (by first | decide | omega) | exact st.c4 (by first | decide | omega) | exact st.c5 (by first | decide | omega) | exact st.c6 (by first | decide | omega) | exact st.c7 (by first | decide | omega) | exact st.c8 (by first | decide | omega))) rfl rfl rfl ?_
    -- R8.2 33 := disk.go:58 call
    refine WL.call (r_call ty_call50 rfl) rfl rfl rfl (refuse_ok _ _ _ st) ?_
    rintro _ w ⟨be, rfl, st⟩
    -- R8.3 2 := disk.go:58 assign
    refine WL.v (by first | exact r_assign (v := .pointer _) rfl | exact r_assign rfl) rfl rfl rfl ?_
    -- R8.4 3 := disk.go:58 assign
    refine WL.v (by first | exact r_assign (v := .nilIface) rfl | exact r_assign (v := .iface _ _) rfl | exact r_assign rfl) rfl rfl rfl ?_
    refine WL.fin hK397 (fun _ _ h => h) ?_
    refine WC.ret2 Tryd.results33 (fun _ _ h => h) rfl ?_
    exact ⟨_, rfl, .inr ⟨by rw [if_neg (by omega), if_pos (.inl h3)], be, _, _, rfl, st.drop1⟩⟩
  by_cases h4 : 65536 < c
  · skip
    refine WC.seq fun K398 hK398 => ?_
    refine WC.seq fun K399 hK399 => ?_
    -- region 5
    refine WC.region ?_
    -- R5.0 12 := disk.go:54 fieldAddr
    refine WL.v (by exact r_field ty_fld74_0 rfl) rfl rfl rfl ?_
    -- R5.1 13 := disk.go:54 load
    refine WL.v (by exact r_load1 ty_one2 rfl (by first | assumption | exact st.c0 (by first | decide | omega) | exact st.c1 (by first | decide | omega) | exact st.c2 (by first | decide | omega) | exact st.c3 (by first | decide | omega) | exact st.c4 (by first | decide | omega) | exact st.c5 (by first | decide | omega) | exact st.c6 (by first | decide | omega) | exact st.c7 (by first | decide | omega) | exact st.c8 (by first | decide | omega))) rfl rfl rfl ?_
    -- R5.2 14 := disk.go:54 binOp
    refine WL.v (by first | exact r_lss rfl rfl (decide_eq_true (by omega)) | exact r_lss rfl rfl (decide_eq_false (by omega)) | exact r_lss rfl rfl rfl) rfl rfl rfl ?_
    -- R5.3 15 := disk.go:54 move
    refine WL.v (by first | exact r_move (v := .bool _) rfl | exact r_move rfl) rfl rfl rfl ?_
    -- R5.4 16 := disk.go:54 fieldAddr
    refine WL.v (by exact r_field ty_fld74_0 rfl) rfl rfl rfl ?_
    -- R5.5 17 := disk.go:54 load
    refine WL.v (by exact r_load1 ty_one2 rfl (by first | assumption | exact st.c0 (by first | decide | omega) | exact st.c1 (by first | decide | omega) | exact st.c2 (by first | decide | omega) | exact st.c3 (by first | decide | omega) | exact st.c4 (by first | decide | omega) | exact st.c5 (by first | decide | omega) | exact st.c6 (by first | decide | omega) | exact st.c7 (by first | decide | omega) | exact st.c8 (by first | decide | omega))) rfl rfl rfl ?_
    -- R5.6 18 := disk.go:54 binOp
    refine WL.v (by first | exact r_gtr rfl rfl (decide_eq_true (by omega)) | exact r_gtr rfl rfl (decide_eq_false (by omega)) | exact r_gtr rfl rfl rfl) rfl rfl rfl ?_
    -- R5.7 19 := disk.go:54 pick
    refine WL.v (by first | exact r_pickT (v := .bool _) rfl rfl | exact r_pickF (v := .bool _) rfl rfl) rfl rfl rfl ?_
    refine WL.fin hK399 (fun _ _ h => h) ?_
    refine WC.condF rfl rfl ?_
    refine WC.skipF hK398 (fun _ _ h => h) ?_
    refine WC.seq fun K400 hK400 => ?_
    refine WC.seq fun K401 hK401 => ?_
    -- region 7
    refine WC.region ?_
    -- R7.0 23 := disk.go:57 fieldAddr
    refine WL.v (by exact r_field ty_fld74_1 rfl) rfl rfl rfl ?_
    -- R7.1 24 := disk.go:57 load
    refine WL.v (by exact r_load1 ty_one2 rfl (by first | assumption | exact st.c0 (by first | decide | omega) | exact st.c1 (by first | decide | omega) | exact st.c2 (by first | decide | omega) | exact st.c3 (by first | decide | omega) | exact st.c4 (by first | decide | omega) | exact st.c5 (by first | decide | omega) | exact st.c6 (by first | decide | omega) | exact st.c7 (by first | decide | omega) | exact st.c8 (by first | decide | omega))) rfl rfl rfl ?_
    -- R7.2 25 := disk.go:57 binOp
    refine WL.v (by first | exact r_lss rfl rfl (decide_eq_true (by omega)) | exact r_lss rfl rfl (decide_eq_false (by omega)) | exact r_lss rfl rfl rfl) rfl rfl rfl ?_
    -- R7.3 26 := disk.go:57 move
    refine WL.v (by first | exact r_move (v := .bool _) rfl | exact r_move rfl) rfl rfl rfl ?_
    -- R7.4 27 := disk.go:57 fieldAddr
    refine WL.v (by exact r_field ty_fld74_1 rfl) rfl rfl rfl ?_
    -- R7.5 28 := disk.go:57 load
    refine WL.v (by exact r_load1 ty_one2 rfl (by first | assumption | exact st.c0 (by first | decide | omega) | exact st.c1 (by first | decide | omega) | exact st.c2 (by first | decide | omega) | exact st.c3 (by first | decide | omega) | exact st.c4 (by first | decide | omega) | exact st.c5 (by first | decide | omega) | exact st.c6 (by first | decide | omega) | exact st.c7 (by first | decide | omega) | exact st.c8 (by first | decide | omega))) rfl rfl rfl ?_
    -- R7.6 29 := disk.go:57 binOp
    refine WL.v (by first | exact r_gtr rfl rfl (decide_eq_true (by omega)) | exact r_gtr rfl rfl (decide_eq_false (by omega)) | exact r_gtr rfl rfl rfl) rfl rfl rfl ?_
    -- R7.7 30 := disk.go:57 pick
    refine WL.v (by first | exact r_pickT (v := .bool _) rfl rfl | exact r_pickF (v := .bool _) rfl rfl) rfl rfl rfl ?_
    refine WL.fin hK401 (fun _ _ h => h) ?_
    refine WC.condT rfl rfl ?_
    refine WC.seq fun K402 hK402 => ?_
    -- region 8
    refine WC.region ?_
    -- R8.0 31 := disk.go:58 fieldAddr
    refine WL.v (by exact r_field ty_fld74_1 rfl) rfl rfl rfl ?_
    -- R8.1 32 := disk.go:58 load
    refine WL.v (by exact r_load1 ty_one2 rfl (by first | assumption | exact st.c0 (by first | decide | omega) | exact st.c1 (by first | decide | omega) | exact st.c2 (by first | decide | omega) | exact st.c3 (by first | decide | omega) | exact st.c4 (by first | decide | omega) | exact st.c5 (by first | decide | omega) | exact st.c6 (by first | decide | omega) | exact st.c7 (by first | decide | omega) | exact st.c8 (by first | decide | omega))) rfl rfl rfl ?_
    -- R8.2 33 := disk.go:58 call
    refine WL.call (r_call ty_call50 rfl) rfl rfl rfl (refuse_ok _ _ _ st) ?_
    rintro _ w ⟨be, rfl, st⟩
    -- R8.3 2 := disk.go:58 assign
    refine WL.v (by first | exact r_assign (v := .pointer _) rfl | exact r_assign rfl) rfl rfl rfl ?_
    -- R8.4 3 := disk.go:58 assign
    refine WL.v (by first | exact r_assign (v := .nilIface) rfl | exact r_assign (v := .iface _ _) rfl | exact r_assign rfl) rfl rfl rfl ?_
    refine WL.fin hK402 (fun _ _ h => h) ?_
    refine WC.ret2 Tryd.results33 (fun _ _ h => h) rfl ?_
    exact ⟨_, rfl, .inr ⟨by rw [if_neg (by omega), if_pos (.inr h4)], be, _, _, rfl, st.drop1⟩⟩
  obtain ⟨sn, rfl⟩ := Int.eq_ofNat_of_zero_le (show 0 ≤ s by omega)
  obtain ⟨cn, rfl⟩ := Int.eq_ofNat_of_zero_le (show 0 ≤ c by omega)
  refine WC.seq fun K403 hK403 => ?_
  refine WC.seq fun K404 hK404 => ?_
  -- region 5
  refine WC.region ?_
  -- R5.0 12 := disk.go:54 fieldAddr
  refine WL.v (by exact r_field ty_fld74_0 rfl) rfl rfl rfl ?_
  -- R5.1 13 := disk.go:54 load
  refine WL.v (by exact r_load1 ty_one2 rfl (by first | assumption | exact st.c0 (by first | decide | omega) | exact st.c1 (by first | decide | omega) | exact st.c2 (by first | decide | omega) | exact st.c3 (by first | decide | omega) | exact st.c4 (by first | decide | omega) | exact st.c5 (by first | decide | omega) | exact st.c6 (by first | decide | omega) | exact st.c7 (by first | decide | omega) | exact st.c8 (by first | decide | omega))) rfl rfl rfl ?_
  -- R5.2 14 := disk.go:54 binOp
  refine WL.v (by first | exact r_lss rfl rfl (decide_eq_true (by omega)) | exact r_lss rfl rfl (decide_eq_false (by omega)) | exact r_lss rfl rfl rfl) rfl rfl rfl ?_
  -- R5.3 15 := disk.go:54 move
  refine WL.v (by first | exact r_move (v := .bool _) rfl | exact r_move rfl) rfl rfl rfl ?_
  -- R5.4 16 := disk.go:54 fieldAddr
  refine WL.v (by exact r_field ty_fld74_0 rfl) rfl rfl rfl ?_
  -- R5.5 17 := disk.go:54 load
  refine WL.v (by exact r_load1 ty_one2 rfl (by first | assumption | exact st.c0 (by first | decide | omega) | exact st.c1 (by first | decide | omega) | exact st.c2 (by first | decide | omega) | exact st.c3 (by first | decide | omega) | exact st.c4 (by first | decide | omega) | exact st.c5 (by first | decide | omega) | exact st.c6 (by first | decide | omega) | exact st.c7 (by first | decide | omega) | exact st.c8 (by first | decide | omega))) rfl rfl rfl ?_
  -- R5.6 18 := disk.go:54 binOp
  refine WL.v (by first | exact r_gtr rfl rfl (decide_eq_true (by omega)) | exact r_gtr rfl rfl (decide_eq_false (by omega)) | exact r_gtr rfl rfl rfl) rfl rfl rfl ?_
  -- R5.7 19 := disk.go:54 pick
  refine WL.v (by first | exact r_pickT (v := .bool _) rfl rfl | exact r_pickF (v := .bool _) rfl rfl) rfl rfl rfl ?_
  refine WL.fin hK404 (fun _ _ h => h) ?_
  refine WC.condF rfl rfl ?_
  refine WC.skipF hK403 (fun _ _ h => h) ?_
  refine WC.seq fun K405 hK405 => ?_
  refine WC.seq fun K406 hK406 => ?_
  -- region 7
  refine WC.region ?_
  -- R7.0 23 := disk.go:57 fieldAddr
  refine WL.v (by exact r_field ty_fld74_1 rfl) rfl rfl rfl ?_
  -- R7.1 24 := disk.go:57 load
  refine WL.v (by exact r_load1 ty_one2 rfl (by first | assumption | exact st.c0 (by first | decide | omega) | exact st.c1 (by first | decide | omega) | exact st.c2 (by first | decide | omega) | exact st.c3 (by first | decide | omega) | exact st.c4 (by first | decide | omega) | exact st.c5 (by first | decide | omega) | exact st.c6 (by first | decide | omega) | exact st.c7 (by first | decide | omega) | exact st.c8 (by first | decide | omega))) rfl rfl rfl ?_
  -- R7.2 25 := disk.go:57 binOp
  refine WL.v (by first | exact r_lss rfl rfl (decide_eq_true (by omega)) | exact r_lss rfl rfl (decide_eq_false (by omega)) | exact r_lss rfl rfl rfl) rfl rfl rfl ?_
  -- R7.3 26 := disk.go:57 move
  refine WL.v (by first | exact r_move (v := .bool _) rfl | exact r_move rfl) rfl rfl rfl ?_
  -- R7.4 27 := disk.go:57 fieldAddr
  refine WL.v (by exact r_field ty_fld74_1 rfl) rfl rfl rfl ?_
  -- R7.5 28 := disk.go:57 load
  refine WL.v (by exact r_load1 ty_one2 rfl (by first | assumption | exact st.c0 (by first | decide | omega) | exact st.c1 (by first | decide | omega) | exact st.c2 (by first | decide | omega) | exact st.c3 (by first | decide | omega) | exact st.c4 (by first | decide | omega) | exact st.c5 (by first | decide | omega) | exact st.c6 (by first | decide | omega) | exact st.c7 (by first | decide | omega) | exact st.c8 (by first | decide | omega))) rfl rfl rfl ?_
  -- R7.6 29 := disk.go:57 binOp
  refine WL.v (by first | exact r_gtr rfl rfl (decide_eq_true (by omega)) | exact r_gtr rfl rfl (decide_eq_false (by omega)) | exact r_gtr rfl rfl rfl) rfl rfl rfl ?_
  -- R7.7 30 := disk.go:57 pick
  refine WL.v (by first | exact r_pickT (v := .bool _) rfl rfl | exact r_pickF (v := .bool _) rfl rfl) rfl rfl rfl ?_
  refine WL.fin hK406 (fun _ _ h => h) ?_
  refine WC.condF rfl rfl ?_
  refine WC.skipF hK405 (fun _ _ h => h) ?_
  refine WC.seq fun K407 hK407 => ?_
  -- region 9 (draws)
  refine WC.heldS [8, 9] [0, 1, 3, 4] [2, 5, 6, 7, 8, 9] st (st) ty_mixed (by kernel_rfl) fun w st Kq hKq => ?_
  -- R9.0 34 := disk.go:60 fieldAddr
  refine HL.v (fun w st => by exact r_field ty_fld74_0 rfl) rfl rfl rfl ?_
  -- R9.1 35 := disk.go:60 load
  refine HL.v (fun w st => by exact r_load1 ty_one2 rfl (by first | assumption | exact st.c0 (by first | decide | omega) | exact st.c1 (by first | decide | omega) | exact st.c2 (by first | decide | omega) | exact st.c3 (by first | decide | omega) | exact st.c4 (by first | decide | omega) | exact st.c5 (by first | decide | omega) | exact st.c6 (by first | decide | omega) | exact st.c7 (by first | decide | omega) | exact st.c8 (by first | decide | omega))) rfl rfl rfl ?_
  -- R9.3 37 := disk.go:60 fieldAddr
  refine HL.v (fun w st => by exact r_field ty_fld74_1 rfl) rfl rfl rfl ?_
  -- R9.4 38 := disk.go:60 load
  refine HL.v (fun w st => by exact r_load1 ty_one2 rfl (by first | assumption | exact st.c0 (by first | decide | omega) | exact st.c1 (by first | decide | omega) | exact st.c2 (by first | decide | omega) | exact st.c3 (by first | decide | omega) | exact st.c4 (by first | decide | omega) | exact st.c5 (by first | decide | omega) | exact st.c6 (by first | decide | omega) | exact st.c7 (by first | decide | omega) | exact st.c8 (by first | decide | omega))) rfl rfl rfl ?_
  refine HL.fin hKq ?_
  refine TL.at ?_
  -- R9.2 36 := disk.go:60 call
  refine WL.call (r_call ty_call51 rfl) rfl rfl rfl (newPlatter_ok sn (by omega) st) ?_
  rintro _ w ⟨bX, rfl, st⟩
  refine TL.nxt (by first | exact st | exact st.drop | exact st.drop1 | exact st.drop2 | exact st.drop3 | exact st.drop4 | exact st.drop.drop | exact st.drop.drop1 | exact st.drop.drop2 | exact st.drop.drop3 | exact st.drop.drop4 | exact st.drop.drop.drop | exact st.drop.drop.drop.drop | exact st_dropL st | exact st_dropL st.drop | exact st_none st) ?_
  refine TL.at ?_
  -- R9.5 39 := disk.go:60 call
  refine WL.call (r_call ty_call52 rfl) rfl rfl rfl (newCache_ok cn (by omega) st) ?_
  rintro _ w ⟨bS, bM, rfl, st⟩
  refine TL.nxt (by first | exact st | exact st.drop | exact st.drop1 | exact st.drop2 | exact st.drop3 | exact st.drop4 | exact st.drop.drop | exact st.drop.drop1 | exact st.drop.drop2 | exact st.drop.drop3 | exact st.drop.drop4 | exact st.drop.drop.drop | exact st.drop.drop.drop.drop | exact st_dropL st | exact st_dropL st.drop | exact st_none st) ?_
  refine TL.at ?_
  -- R9.6 40 := disk.go:60 build
  refine WL.v (by exact r_build (ps := [(1, .agg _), (2, .agg _)]) (vs := [_, _, _, _, _, _, _, _, _, _, _, _, _, _, _, _, _, _, _, _, _, _, _]) ty_pl97 ty_zero97 rfl (fill_step (pv := [_, _]) (cs' := [_, _, _, _, _, _, _, _, _, _, _, _, _, _, _, _, _, _, _, _, _, _, _]) rfl rfl rfl rfl (fill_step (pv := [_, _, _, _, _]) (cs' := [_, _, _, _, _, _, _, _, _, _, _, _, _, _, _, _, _, _, _, _, _, _, _]) rfl rfl rfl rfl (fill_nil)))) rfl rfl rfl ?_
  refine TL.nxt (by first | exact st | exact st.drop | exact st.drop1 | exact st.drop2 | exact st.drop3 | exact st.drop4 | exact st.drop.drop | exact st.drop.drop1 | exact st.drop.drop2 | exact st.drop.drop3 | exact st.drop.drop4 | exact st.drop.drop.drop | exact st.drop.drop.drop.drop | exact st_dropL st | exact st_dropL st.drop | exact st_none st) ?_
  refine TL.at ?_
  -- R9.7 41 := disk.go:60 box
  first | refine WL.box (m := 23) (vs := [.int _ _, .int _ _, .int _ _, .slice _ _ _, .int _ _, .int _ _, .int _ _, .slice _ _ _, .map _, .bool _, .bool _, .int _ _, .slice _ _ _, .int _ _, .int _ _, .int _ _, .int _ _, .int _ _, .int _ _, .int _ _, .int _ _, .int _ _, .int _ _]) st rfl rfl rfl rfl rfl rfl ?_ | refine WL.box (m := 23) (vs := [_, _, _, _, _, _, _, _, _, _, _, _, _, _, _, _, _, _, _, _, _, _, _]) st rfl rfl rfl rfl rfl rfl ?_ | refine WL.box st rfl rfl rfl rfl rfl rfl ?_
  intro b41 w st
  refine TL.nxt (by first | exact st | exact st.drop | exact st.drop1 | exact st.drop2 | exact st.drop3 | exact st.drop4 | exact st.drop.drop | exact st.drop.drop1 | exact st.drop.drop2 | exact st.drop.drop3 | exact st.drop.drop4 | exact st.drop.drop.drop | exact st.drop.drop.drop.drop | exact st_dropL st | exact st_dropL st.drop | exact st_none st) ?_
  refine TL.at ?_
  -- R9.8 2 := disk.go:60 assign
  refine WL.v (by first | exact r_assign (v := .pointer _) rfl | exact r_assign rfl) rfl rfl rfl ?_
  refine TL.nxt' rfl ?_
  refine TL.at ?_
  -- R9.9 3 := disk.go:60 assign
  refine WL.v (by first | exact r_assign (v := .nilIface) rfl | exact r_assign (v := .iface _ _) rfl | exact r_assign rfl) rfl rfl rfl ?_
  refine TL.nxt' rfl ?_
  refine TL.wl ?_
  refine WL.fin hK407 (fun _ _ h => h) ?_
  refine WC.ret2 Tryd.results33 (fun _ _ h => h) rfl ?_
  have st := st_nrm (L' := dC 0 (newD b41 bX bS bM sn cn)) rfl st
  refine ⟨_, rfl, .inl ⟨_, newD b41 bX bS bM sn cn, by rw [if_neg (by omega), if_neg (by omega)]; rfl, new_rep (by omega) (by omega) (by omega) (by omega), rfl, ?_⟩⟩
  have e : DI (newD b41 bX bS bM sn cn) 0 l = (b41, Row 97 23 (nth (dC 0 (newD b41 bX bS bM sn cn)))) :: (bX, Row 29 ((sn + 63) / 64) (exF fun _ => none)) :: (bS, Row 128 ((cn + 31) / 32) (slF fun _ => none)) :: (bM, MapV (keyGood Go.Proofs.Tryd.prog 2) (gOf (nV fun _ => none))) :: ([] ++ (gather ((sn + 63) / 64) (fun _ => []) ++ (gather ((cn + 31) / 32) (fun _ => []) ++ l))) := rfl
  rw [e, gather_nil, gather_nil]
  exact st.drop4.perm (.cons _ (List.perm_middle (l₁ := [_, _])))
end Go.Proofs.Qxb6500837aDoor

