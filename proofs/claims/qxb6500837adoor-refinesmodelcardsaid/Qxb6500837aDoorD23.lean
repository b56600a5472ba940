import Derived.Test.Qxb6500837aDoorD21
set_option linter.unusedVariables false
set_option linter.unusedSimpArgs false
set_option maxRecDepth 20000
namespace Go.Proofs.Qxb6500837aDoor
open Go.RowKit Go.E1 Go.Disk
variable {w0 : World} {L L' l I J : List HI} {w : World} {D : DK} {m : Int} {P : PD} {q : Obj → Prop}

/-! Law 6, plainly: what is seen. -/
abbrev seenP (P : PD) : Nat → Nat → Int := settle P.pc P.pend
theorem settle_app {pc : Nat → Nat → Int} {l : List (Nat × (Nat → Int))} {p : Nat × (Nat → Int)} : settle pc (l ++ [p]) = stP (settle pc l) p.1 512 p.2 := by
  unfold settle; rw [List.foldl_append]; rfl
theorem destP_seen (h1 : 1 ≤ P.lim) : seenP (destP P) = seenP P := by
  unfold destP
  split
  · rename_i hl
    cases hp : P.pend with
    | nil => rw [hp] at hl; simp at hl; omega
    | cons p l =>
      show settle (stP P.pc p.1 512 p.2) l = settle P.pc P.pend
      rw [hp]; rfl
  · rfl
theorem push_seen {s : Nat} {f : Nat → Int} : seenP (pushP P s f) = stP (seenP P) s 512 f := settle_app
theorem fuseP_seen (h : (fuseP P).2 = false) : seenP (fuseP P).1 = seenP P ∧ (fuseP P).1.lim = P.lim := by
  unfold fuseP at h ⊢
  split
  · rename_i ha
    rw [if_pos ha] at h
    split
    · rename_i hf; rw [if_pos hf] at h; cases h
    · exact ⟨rfl, rfl⟩
  · exact ⟨rfl, rfl⟩
theorem write1_seen {s : Nat} {f : Nat → Int} (h1 : 1 ≤ P.lim) (h : (write1 P s f).2 = false) : seenP (write1 P s f).1 = stP (seenP P) s 512 f ∧ (write1 P s f).1.lim = P.lim := by
  have := fuseP_seen (P := pushP (destP P) s f) h
  exact ⟨by rw [← destP_seen h1, ← push_seen]; exact this.1, this.2.trans destP_lim⟩
/-- n writes, from the i-th on. -/
def wrS (bs : List Int) (s : Nat) : Nat → Nat → (Nat → Nat → Int) → Nat → Nat → Int
  | i, 0, S => S
  | i, n + 1, S => wrS bs s (i + 1) n (stP S (s + i) 512 (cutB bs i))
theorem writeL_seen {bs : List Int} {s : Nat} : ∀ {n i : Nat} {P : PD}, 1 ≤ P.lim → (writeL bs s i n P).2 = 0 → seenP (writeL bs s i n P).1 = wrS bs s i n (seenP P)
  | 0, i, P, _, _ => rfl
  | n + 1, i, P, h1, h => by
    have e : writeL bs s i (n + 1) P = if (write1 P (s + i) (cutB bs i)).2 then ((write1 P (s + i) (cutB bs i)).1, 3) else writeL bs s (i + 1) n (write1 P (s + i) (cutB bs i)).1 := rfl
    rw [e] at h ⊢
    rcases hw : (write1 P (s + i) (cutB bs i)).2 with _ | _
    rotate_left
    · rw [if_pos hw] at h; cases h
    ·
      have hn : ¬ (write1 P (s + i) (cutB bs i)).2 = true := by rw [hw]; decide
      rw [if_neg hn] at h
      show seenP (writeL bs s (i + 1) n (write1 P (s + i) (cutB bs i)).1).1 = _
      have a := write1_seen h1 hw
      rw [writeL_seen (by rw [a.2]; exact h1) h, a.1]; rfl
theorem wrS_out {bs : List Int} {s t : Nat} : ∀ {n i : Nat} {S : Nat → Nat → Int}, ¬ (s + i ≤ t ∧ t < s + i + n) → ∀ j, wrS bs s i n S t j = S t j
  | 0, i, S, _, j => rfl
  | n + 1, i, S, h, j => by
    show wrS bs s (i + 1) n (stP S (s + i) 512 (cutB bs i)) t j = _
    rw [wrS_out (n := n) (i := i + 1) (by omega)]
    unfold stP
    rw [if_neg (by intro h2; omega)]
theorem wrS_in {bs : List Int} {s k : Nat} : ∀ {n i : Nat} {S : Nat → Nat → Int}, i ≤ k → k < i + n → ∀ j, j < 512 → wrS bs s i n S (s + k) j = cutB bs k j
  | 0, i, S, h1, h2, j, hj => by omega
  | n + 1, i, S, h1, h2, j, hj => by
    show wrS bs s (i + 1) n (stP S (s + i) 512 (cutB bs i)) (s + k) j = _
    by_cases hk : k = i
    · subst hk
      rw [wrS_out (n := n) (i := k + 1) (by omega)]
      unfold stP
      rw [if_pos ⟨rfl, hj⟩]
    · exact wrS_in (n := n) (i := i + 1) (by omega) (by omega) j hj

theorem writeL_code {bs : List Int} {s : Nat} : ∀ {n i : Nat} {P : PD}, (writeL bs s i n P).2 = 0 ∨ ((writeL bs s i n P).2 = 3 ∧ (writeL bs s i n P).1.down = true)
  | 0, i, P => .inl rfl
  | n + 1, i, P => by
    have e : writeL bs s i (n + 1) P = if (write1 P (s + i) (cutB bs i)).2 then ((write1 P (s + i) (cutB bs i)).1, 3) else writeL bs s (i + 1) n (write1 P (s + i) (cutB bs i)).1 := rfl
    rw [e]
    cases hw : (write1 P (s + i) (cutB bs i)).2 with
    | true =>
      rw [if_pos rfl]
      refine .inr ⟨rfl, ?_⟩
      show (write1 P (s + i) (cutB bs i)).1.down = true
      unfold write1 fuseP at hw ⊢
      split
      · rename_i ha
        rw [if_pos ha] at hw
        split
        · rfl
        · rename_i hf; rw [if_neg hf] at hw; cases hw
      · rename_i ha; rw [if_neg ha] at hw; cases hw
    | false => rw [if_neg (by decide)]; exact writeL_code

/-- A step that leaves the disk up. -/
theorem step_seen {o : OP} (h1 : 1 ≤ P.lim) (h2 : P.sec ≤ 65536) (hd : (stepP P o).1.down = false) :
    (o.kind = 0 ∧ (stepP P o).2 = 0 ∧ (∀ s j, seenP (stepP P o).1 s j = 0)) ∨
    (o.kind = 1 ∧ (stepP P o).2 = 0 ∧ 0 ≤ o.sct ∧ o.sct ≤ 65536 ∧ o.dat.bs.length / 512 ≤ 65536 ∧ seenP (stepP P o).1 = wrS o.dat.bs o.sct.toNat 0 (o.dat.bs.length / 512) (seenP P)) ∨
    (¬ ((stepP P o).2 = 0 ∧ (o.kind = 0 ∨ o.kind = 1)) ∧ seenP (stepP P o).1 = seenP P) := by
  unfold stepP at hd ⊢
  split
  · rename_i hk
    unfold fmtS
    split
    · exact .inr (.inr ⟨(fun h => by have h0 := h.1; cases h0), rfl⟩)
    · rename_i P' h
      refine .inl ⟨hk, rfl, ?_⟩
      unfold fmtP at h
      split at h
      · cases h
      · split at h
        · cases h
        · cases h; exact fun _ _ => rfl
  rename_i hk0
  rw [if_neg hk0] at hd
  split
  · rename_i hk
    rw [if_pos hk] at hd
    unfold writeP at hd ⊢
    split
    · exact .inr (.inr ⟨(fun h => by have h0 := h.1; cases h0), rfl⟩)
    · rename_i hdn
      rw [if_neg hdn] at hd
      split
      · rename_i hs; exact .inr (.inr ⟨(fun h => hs h.1), rfl⟩)
      · rename_i hs
        rw [if_neg hs] at hd
        have hs : spanC P.sec o.sct o.dat.bs.length = 0 := by
          cases Int.decEq (spanC P.sec o.sct o.dat.bs.length) 0 with
          | isTrue h => exact h
          | isFalse h => exact absurd h hs
        have hr : 0 ≤ o.sct ∧ o.sct ≤ 65536 ∧ o.dat.bs.length / 512 ≤ 65536 := by
          unfold spanC at hs
          split at hs
          · cases hs
          · split at hs
            · cases hs
            · omega
        rcases writeL_code (bs := o.dat.bs) (s := o.sct.toNat) (n := o.dat.bs.length / 512) (i := 0) (P := P) with h | h
        · exact .inr (.inl ⟨hk, h, hr.1, hr.2.1, hr.2.2, writeL_seen h1 h⟩)
        · rw [h.2] at hd; cases hd
  rename_i hk1
  rw [if_neg hk1] at hd
  split
  · exact .inr (.inr ⟨fun h => by omega, rfl⟩)
  rename_i hk2
  rw [if_neg hk2] at hd
  split
  · exact .inr (.inr ⟨fun h => by omega, rfl⟩)
  rename_i hk8
  rw [if_neg hk8] at hd
  split
  · unfold syncP
    split <;> exact .inr (.inr ⟨fun h => by omega, rfl⟩)
  rename_i hk3
  rw [if_neg hk3] at hd
  split
  · rename_i hk
    rw [if_pos hk] at hd
    unfold crashCP at hd ⊢
    split
    · exact .inr (.inr ⟨fun h => by omega, rfl⟩)
    · rename_i hdn; rw [if_neg hdn] at hd; cases hd
  split
  · unfold armP
    split
    · exact .inr (.inr ⟨fun h => by omega, rfl⟩)
    · split <;> exact .inr (.inr ⟨fun h => by omega, rfl⟩)
  split
  · unfold disarmP
    split <;> exact .inr (.inr ⟨fun h => by omega, rfl⟩)
  split
  · unfold reopenP
    split <;> exact .inr (.inr ⟨fun h => by omega, rfl⟩)
  · exact .inr (.inr ⟨fun h => by omega, rfl⟩)

theorem wrS_succ {bs : List Int} {s : Nat} : ∀ {n i : Nat} {S : Nat → Nat → Int}, wrS bs s i (n + 1) S = stP (wrS bs s i n S) (s + i + n) 512 (cutB bs (i + n))
  | 0, i, S => rfl
  | n + 1, i, S => by
    show wrS bs s (i + 1) (n + 1) (stP S (s + i) 512 (cutB bs i)) = stP (wrS bs s (i + 1) n (stP S (s + i) 512 (cutB bs i))) (s + i + (n + 1)) 512 (cutB bs (i + (n + 1)))
    rw [wrS_succ (n := n) (i := i + 1), show s + (i + 1) + n = s + i + (n + 1) by omega, show i + 1 + n = i + (n + 1) by omega]

/-- What 'last' and 'crashed' say of what is seen. -/
structure LI (w0 : World) (K : List HI) (S : Nat → Nat → Int) (NL : Int → Option Value) (cr : Bool) : Prop where
  some : ∀ s v, NL s = .some v → ∃ sn : Nat, s = (sn : Int) ∧ Sees w0 K v (bytesOf 512 (S sn))
  none : cr = false → ∀ sn : Nat, NL (sn : Int) = .none → ∀ j, j < 512 → S sn j = 0
variable {K K' : List HI} {S S' : Nat → Nat → Int} {NL : Int → Option Value} {cr : Bool}
theorem LI.empty : LI w0 K S (fun _ => .none) true := ⟨(fun s v h => by cases h), (fun h => by cases h)⟩
theorem LI.fresh (h : ∀ s j, S s j = 0) : LI w0 K S (fun _ => .none) false := ⟨(fun s v h => by cases h), fun _ sn _ j _ => h sn j⟩
theorem LI.more (h : LI w0 K S NL cr) (hs : K ⊆ K') : LI w0 K' S NL cr := ⟨fun s v hv => by obtain ⟨sn, a, b⟩ := h.some s v hv; exact ⟨sn, a, b.mono hs⟩, h.none⟩
theorem LI.set (h : LI w0 K S NL cr) {s : Nat} {f : Nat → Int} {v : Value} (hv : Sees w0 K v (bytesOf 512 f)) (hS : ∀ t j, j < 512 → S' t j = if t = s then f j else S t j) : LI w0 K S' (setN NL (s : Int) v) cr := by
  refine ⟨fun t u hu => ?_, fun hc t ht j hj => ?_⟩
  · unfold setN at hu
    split at hu
    · rename_i e
      cases hu
      refine ⟨s, e, ?_⟩
      rw [bytesOf_congr (g := f) fun j hj => by rw [hS s j hj, if_pos rfl]]; exact hv
    · rename_i e
      obtain ⟨sn, a, b⟩ := h.some t u hu
      refine ⟨sn, a, ?_⟩
      rw [bytesOf_congr (g := S sn) fun j hj => by rw [hS sn j hj, if_neg (fun h => e (by rw [a, h]))]]; exact b
  · unfold setN at ht
    split at ht
    · cases ht
    · rename_i e
      rw [hS t j hj, if_neg (fun h => e (by rw [h]))]
      exact h.none hc t ht j hj

theorem di_perm (h : L.Perm L') : (DI D m L).Perm (DI D m L') := (((((((h.append_left _).append_left _).append_left _).cons _).cons _).cons _).cons _)
theorem st_l1 {s a b c : HI} {l1 K : List HI} (st : S0 w0 (DI D m (s :: (l1 ++ ([a, b, c] ++ K)))) w) : S0 w0 (s :: a :: b :: c :: DI D m (l1 ++ K)) w :=
  st_outF [s, a, b, c] (st.perm (di_perm ((List.perm_append_comm_assoc l1 [a, b, c] K).cons s)))
theorem st_push (F XI : List HI) {K : List HI} (st : S0 w0 (XI ++ (F ++ DI D m K)) w) : S0 w0 (F ++ DI D m (XI ++ K)) w :=
  st.perm ((List.perm_append_comm_assoc XI F _).trans ((di_pull XI).symm.append_left F))
theorem secs_ok {a : Option Addr} {b o n c : Nat} (ha : 0 < n → a = some ⟨b, o, none⟩) (h1 : n ≤ c) (h2 : c ≤ 9223372036854775807) (h3 : n ≤ 1000000000) (st : S0 w0 l w) :
    Calls Tryd.prog 26 #[.slice a n c] w (Ret fun v w' => ∃ XI f, OwnSl 29 1 v (n / 512) XI f ∧ (∀ i, i < n / 512 → f i = .slice (some ⟨b, o + i * 512, none⟩) 512 (c - i * 512)) ∧ S0 w0 (XI ++ l) w') := by
  have hl : (List.replicate n (0 : Int)).length = n := List.length_replicate
  have := sectorsOf_ok ⟨a, c, b, o, List.replicate n 0⟩ ⟨by show (List.replicate n (0 : Int)).length ≤ c; rw [hl]; exact h1, h2, by show 0 < (List.replicate n (0 : Int)).length → _; rw [hl]; exact ha, fun x hx => by rw [List.eq_of_mem_replicate hx]; decide⟩ (by show (List.replicate n (0 : Int)).length ≤ _; rw [hl]; exact h3) st
  simp only [hl] at this
  exact this

set_option maxHeartbeats 64000000 in
theorem read_law (a : Option Addr) (sb so n c : Nat) (op : Nat → OP) {w : World} (hg : hG w) (hS : Scr w sb so n op) (hn63 : n ≤ 140737488355328) (ha : 0 < n → a = some ⟨sb, so, none⟩) :
    Calls Tryd.prog 4 #[.slice a n c] w (Ret fun v w' => v = .bool true ∧ S0 w [] w') := by
  have st0 := St.init w (fun _ => False)
  obtain ⟨w0, hw0⟩ : ∃ w0, w0 = w := ⟨w, rfl⟩
  have st : S0 w0 [] w := by rw [hw0]; exact st0
  clear st0
  have hg : hG w0 := by rw [hw0]; exact hg
  have hS : Scr w0 sb so n op := by rw [hw0]; exact hS
  have goal : Calls Tryd.prog 4 #[.slice a n c] w (Ret fun v w' => v = .bool true ∧ S0 w0 [] w') := by
    clear hw0
    refine enter [.slice a n c] Tryd.func4 rfl Tryd.ntmps4 rfl ?_
    show WC _ _ _ 104 [] [(0, .slice a n c)] _
    refine WC.seq fun K716 hK716 => ?_
    -- region 0
    refine WC.region ?_
    -- R0.0 2 := laws.go:44 assign
    refine WL.v (by first | exact r_assign (v := .bool _) rfl | exact r_assign rfl) rfl rfl rfl ?_
    refine WL.fin hK716 (fun _ _ h => h) ?_
    refine WC.seq fun K717 hK717 => ?_
    refine WC.seq fun K718 hK718 => ?_
    -- region 1
    refine WC.region ?_
    -- R1.0 17 := laws.go:45 move
    refine WL.v (by first | exact r_move (v := .slice _ _ _) rfl | exact r_move rfl) rfl rfl rfl ?_
    -- R1.1 18 := laws.go:45 call
    refine WL.call (r_call ty_call10 rfl) rfl rfl rfl (zzSmall1_ok a sb so n c op hS hn63 ha st) ?_
    rintro _ w ⟨t, rfl, hsm, st⟩
    -- R1.2 19 := laws.go:45 unOp
    refine WL.v (by first | exact r_notT rfl | exact r_notF rfl | exact r_not rfl) rfl rfl rfl ?_
    refine WL.fin hK718 (fun _ _ h => h) ?_
    rcases t with _ | _
    · skip
      refine WC.condT rfl rfl ?_
      refine WC.seq fun K719 hK719 => ?_
      -- region 2
      refine WC.region ?_
      -- R2.0 2 := laws.go:46 assign
      refine WL.v (by first | exact r_assign (v := .bool _) rfl | exact r_assign rfl) rfl rfl rfl ?_
      refine WL.fin hK719 (fun _ _ h => h) ?_
      refine WC.ret1 Tryd.results4 (fun _ _ h => h) rfl ?_
      exact ⟨_, rfl, rfl, st⟩
    have hsm := hsm rfl
    have hnn := hsm.1
    refine WC.condF rfl rfl ?_
    refine WC.skipF hK717 (fun _ _ h => h) ?_
    refine WC.seq fun K720 hK720 => ?_
    -- region 3
    refine WC.region ?_
    -- R3.0 20 := laws.go:49 call
    refine WL.call (r_call ty_call11 rfl) rfl rfl rfl (newStage_ok st) ?_
    rintro _ w ⟨D, bs, rfl, hr, st⟩
    -- R3.1 3 := laws.go:49 assign
    refine WL.v (by first | exact r_assign (v := .pointer _) rfl | exact r_assign rfl) rfl rfl rfl ?_
    refine WL.fin hK720 (fun _ _ h => h) ?_
    refine WC.seq fun K721 hK721 => ?_
    -- region 4
    refine WC.region ?_
    -- R4.0 21 := laws.go:50 makeMap
    refine WL.mkmap (keyGood Tryd.prog 2) st rfl rfl ?_
    intro b21 w st
    -- R4.1 4 := laws.go:50 assign
    refine WL.v (by first | exact r_assign (v := .map _) rfl | exact r_assign rfl) rfl rfl rfl ?_
    refine WL.fin hK721 (fun _ _ h => h) ?_
    refine WC.seq fun K722 hK722 => ?_
    -- region 5
    refine WC.region ?_
    -- R5.0 5 := laws.go:51 assign
    refine WL.v (by first | exact r_assign (v := .bool _) rfl | exact r_assign rfl) rfl rfl rfl ?_
    refine WL.fin hK722 (fun _ _ h => h) ?_
    refine WC.seq fun K723 hK723 => ?_
    -- region 6
    refine WC.region ?_
    -- R6.0 22 := laws.go:52 makeSlice
    refine WL.make (len := 512) (cap := 512) st ty_mk29 ty_zero5 rfl rfl (by first | rfl | omega) (by first | rfl | omega) (by omega) (by omega) (by omega) rfl rfl rfl rfl ?_
    intro b22 w st
    -- R6.1 6 := laws.go:52 assign
    refine WL.v (by first | exact r_assign (v := .slice _ _ _) rfl | exact r_assign rfl) rfl rfl rfl ?_
    refine WL.fin hK723 (fun _ _ h => h) ?_
    refine WC.seq fun K724 hK724 => ?_
    refine WC.seq fun K725 hK725 => ?_
    -- region 7
    refine WC.region ?_
    -- R7.0 23 := laws.go:53 move
    refine WL.v (by first | exact r_move (v := .slice _ _ _) rfl | exact r_move rfl) rfl rfl rfl ?_
    -- R7.1 24 := laws.go:53 call
    refine WL.v (by exact r_len ty_usl22 rfl) rfl rfl rfl ?_
    -- R7.2 25 := laws.go:53 move
    refine WL.v (by first | exact r_move (v := .int _ _) rfl | exact r_move rfl) rfl rfl rfl ?_
    refine WL.fin hK725 (fun _ _ h => h) ?_
    refine WC.block ?_
    have st := row1 (g := fun _ => .int .u8 0) st fun k => by simp [zrow, nth, Nat.mod_one]
    have st : S0 w0 (sI bs D.bD :: (b21, MapV (keyGood Go.Proofs.Tryd.prog 2) (gOf fun _ => none)) :: iI b22 512 (fun _ => 0) :: DI D 0 []) w := by rw [gOf_none]; exact st.front1.front2
    refine WC.loop (ι := DK × PD × Nat × Nat × (Int → Option Value) × Bool × List HI) (fun z => [(3, .pointer (some ⟨bs, 0, none⟩)), (4, .map (some z.2.2.2.1)), (5, .bool z.2.2.2.2.2.1), (6, .slice (some ⟨b22, 0, none⟩) 512 512), (23, .slice a n c), (24, .int .i64 (n : Nat)), (25, .int .i64 (z.2.2.1 : Nat))])
      (fun z w' => Rep z.1 z.2.1 ∧ z.2.2.1 ≤ n ∧ z.2.1.wr ≤ 128 * z.2.2.1 ∧ LI w0 z.2.2.2.2.2.2 (seenP z.2.1) z.2.2.2.2.1 z.2.2.2.2.2.1 ∧ S0 w0 (sI bs z.1.bD :: (z.2.2.2.1, MapV (keyGood Go.Proofs.Tryd.prog 2) (gOf z.2.2.2.2.1)) :: iI b22 512 (fun _ => 0) :: DI z.1 0 z.2.2.2.2.2.2) w') (fun z => n - z.2.2.1) (D, newP 4096 8192, 0, b21, fun _ => none, false, [])
      ⟨hr, Nat.zero_le _, Nat.le_refl _, LI.fresh fun _ _ => rfl, st⟩ ?_ ?_
    · skip
      repeat (first | exact sub_nil _ | refine sub_cons rfl rfl ?_)
    rintro ⟨D, P, i, bm, NL, cr, K⟩ w ⟨h, hi, hwr, hli, st⟩ K1 hK1
    dsimp only at h hi hwr hli st ⊢
    by_cases hlt : ¬ i < n
    · skip
      refine WC.seq fun K726 hK726 => ?_
      -- region 8
      refine WC.region ?_
      -- R8.0 26 := laws.go:53 binOp
      refine WL.v (by first | exact r_lss rfl rfl (decide_eq_true (by omega)) | exact r_lss rfl rfl (decide_eq_false (by omega)) | exact r_lss rfl rfl rfl) rfl rfl rfl ?_
      refine WL.fin hK726 (fun _ _ h => h) ?_
      refine WC.seq fun K727 hK727 => ?_
      refine WC.condF rfl rfl ?_
      refine WC.exitF hK724 (fun _ _ h => h) ?_
      refine WC.seq fun K728 hK728 => ?_
      -- region 36
      refine WC.region ?_
      -- R36.0 2 := laws.go:83 assign
      refine WL.v (by first | exact r_assign (v := .bool _) rfl | exact r_assign rfl) rfl rfl rfl ?_
      refine WL.fin hK728 (fun _ _ h => h) ?_
      refine WC.ret1 Tryd.results4 (fun _ _ h => h) rfl ?_
      exact ⟨_, rfl, rfl, st_none st⟩
    have hlt : i < n := by omega
    obtain rfl := ha (by omega)
    have hok := hS.ok hsm hlt
    have hw2 := step_wr (P := P) hok.datl
    have hl1 := h.l1; have hs2 := h.s2
    rcases hdn : (stepP P (op i)).1.down with _ | _
    rotate_left
    · skip
      refine WC.seq fun K729 hK729 => ?_
      -- region 8
      refine WC.region ?_
      -- R8.0 26 := laws.go:53 binOp
      refine WL.v (by first | exact r_lss rfl rfl (decide_eq_true (by omega)) | exact r_lss rfl rfl (decide_eq_false (by omega)) | exact r_lss rfl rfl rfl) rfl rfl rfl ?_
      refine WL.fin hK729 (fun _ _ h => h) ?_
      refine WC.seq fun K730 hK730 => ?_
      refine WC.condT rfl rfl ?_
      refine WC.skipF hK730 (fun _ _ h => h) ?_
      refine WC.seq fun K731 hK731 => ?_
      refine WC.block ?_
      refine WC.seq fun K732 hK732 => ?_
      -- region 9
      refine WC.region ?_
      -- R9.0 27 := laws.go:53 indexAddr
      refine WL.v (by exact r_indexS (j := i) ty_sl22 rfl rfl rfl hlt) rfl rfl rfl ?_
      -- R9.1 28 := laws.go:53 load
      refine WL.v (v := (op i).v) (by exact r_loadL (vs := opC (op i)) ty_agg33 rfl ⟨hS.ld hlt st 0 (by decide), hS.ld hlt st 1 (by decide), hS.ld hlt st 2 (by decide), hS.ld hlt st 3 (by decide), hS.ld hlt st 4 (by decide), hS.ld hlt st 5 (by decide), hS.ld hlt st 6 (by decide), hS.ld hlt st 7 (by decide), hS.ld hlt st 8 (by decide), trivial⟩) rfl rfl rfl ?_
      -- R9.2 8 := laws.go:53 alloc
      refine WL.alloc (m := 9) st ty_zero33 rfl rfl rfl ?_
      intro b8 w st
      -- R9.3 None := laws.go:53 store
      first | refine WL.storeW (vs := [_, _, _, _, _, _, _, _, _]) st ty_agg33 rfl rfl rfl rfl rfl rfl ?_ | refine WL.storeL (vs := [_, _, _, _, _, _, _, _, _]) st ty_agg33 rfl rfl rfl rfl (by first | decide | omega) rfl rfl ?_ | refine WL.storeW (vs := [_, _, _, _, _, _, _, _, _]) st.front1 ty_agg33 rfl rfl rfl rfl rfl rfl ?_ | refine WL.storeL (vs := [_, _, _, _, _, _, _, _, _]) st.front1 ty_agg33 rfl rfl rfl rfl (by first | decide | omega) rfl rfl ?_ | refine WL.storeW (vs := [_, _, _, _, _, _, _, _, _]) st.front2 ty_agg33 rfl rfl rfl rfl rfl rfl ?_ | refine WL.storeL (vs := [_, _, _, _, _, _, _, _, _]) st.front2 ty_agg33 rfl rfl rfl rfl (by first | decide | omega) rfl rfl ?_ | refine WL.storeW (vs := [_, _, _, _, _, _, _, _, _]) st.front3 ty_agg33 rfl rfl rfl rfl rfl rfl ?_ | refine WL.storeL (vs := [_, _, _, _, _, _, _, _, _]) st.front3 ty_agg33 rfl rfl rfl rfl (by first | decide | omega) rfl rfl ?_ | refine WL.storeW (vs := [_, _, _, _, _, _, _, _, _]) st.front4 ty_agg33 rfl rfl rfl rfl rfl rfl ?_ | refine WL.storeL (vs := [_, _, _, _, _, _, _, _, _]) st.front4 ty_agg33 rfl rfl rfl rfl (by first | decide | omega) rfl rfl ?_ | refine WL.storeW (vs := [_, _, _, _, _, _, _, _, _]) st.front5 ty_agg33 rfl rfl rfl rfl rfl rfl ?_ | refine WL.storeL (vs := [_, _, _, _, _, _, _, _, _]) st.front5 ty_agg33 rfl rfl rfl rfl (by first | decide | omega) rfl rfl ?_ | refine WL.storeW (vs := [_, _, _, _, _, _, _, _, _]) st.front6 ty_agg33 rfl rfl rfl rfl rfl rfl ?_ | refine WL.storeL (vs := [_, _, _, _, _, _, _, _, _]) st.front6 ty_agg33 rfl rfl rfl rfl (by first | decide | omega) rfl rfl ?_ | refine WL.storeW (vs := [_, _, _, _, _, _, _, _, _]) st.front7 ty_agg33 rfl rfl rfl rfl rfl rfl ?_ | refine WL.storeL (vs := [_, _, _, _, _, _, _, _, _]) st.front7 ty_agg33 rfl rfl rfl rfl (by first | decide | omega) rfl rfl ?_ | refine WL.storeW (vs := [_, _, _, _, _, _, _, _, _]) st.front8 ty_agg33 rfl rfl rfl rfl rfl rfl ?_ | refine WL.storeL (vs := [_, _, _, _, _, _, _, _, _]) st.front8 ty_agg33 rfl rfl rfl rfl (by first | decide | omega) rfl rfl ?_
      intro w st
      refine WL.fin hK732 (fun _ _ h => h) ?_
      refine WC.seq fun K733 hK733 => ?_
      -- region 10
      refine WC.region ?_
      -- R10.0 29 := laws.go:54 move
      refine WL.v (by first | exact r_move (v := .pointer _) rfl | exact r_move rfl) rfl rfl rfl ?_
      -- R10.1 30 := laws.go:54 load
      refine WL.v (by exact r_loadL (vs := [_, _, _, _, _, _, _, _, _]) ty_agg33 rfl ⟨(by first | assumption | exact st.c0 (by first | decide | omega) | exact st.c1 (by first | decide | omega) | exact st.c2 (by first | decide | omega) | exact st.c3 (by first | decide | omega) | exact st.c4 (by first | decide | omega) | exact st.c5 (by first | decide | omega) | exact st.c6 (by first | decide | omega) | exact st.c7 (by first | decide | omega) | exact st.c8 (by first | decide | omega)), (by first | assumption | exact st.c0 (by first | decide | omega) | exact st.c1 (by first | decide | omega) | exact st.c2 (by first | decide | omega) | exact st.c3 (by first | decide | omega) | exact st.c4 (by first | decide | omega) | exact st.c5 (by first | decide | omega) | exact st.c6 (by first | decide | omega) | exact st.c7 (by first | decide | omega) | exact st.c8 (by first | decide | omega)), (by first | assumption | exact st.c0 (by first | decide | omega) | exact st.c1 (by first | decide | omega) | exact st.c2 (by first | decide | omega) | exact st.c3 (by first | decide | omega) | exact st.c4 (by first | decide | omega) | exact st.c5 (by first | decide | omega) | exact st.c6 (by first | decide | omega) | exact st.c7 (by first | decide | omega) | exact st.c8 (by first | decide | omega)), (by first | assumption | exact st.c0 (by first | decide | omega) | exact st.c1 (by first | decide | omega) | exact st.c2 (by first | decide | omega) | exact st.c3 (by first | decide | omega) | exact st.c4 (by first | decide | omega) | exact st.c5 (by first | decide | omega) | exact st.c6 (by first | decide | omega) | exact st.c7 (by first | decide | omega) | exact st.c8 (by first | decide | omega)), (by first | assumption | exact st.c0 (by first | decide | omega) | exact st.c1 (by first | decide | omega) | exact st.c2 (by first | decide | omega) | exact st.c3 (by first | decide | omega) | exact st.c4 (by first | decide | omega) | exact st.c5 (by first | decide | omega) | exact st.c6 (by first | decide | omega) | exact st.c7 (by first | decide | omega) | exact st.c8 (by first | decide | omega)), (by first | assumption | exact st.c0 (by first | decide | omega) | exact st.c1 (by first | decide | omega) | exact st.c2 (by first | decide | omega) | exact st.c3 (by first | decide | omega) | exact st.c4 (by first | decide | omega) | exact st.c5 (by first | decide | omega) | exact st.c6 (by first | decide | omega) | exact st.c7 (by first | decide | omega) | exact st.c8 (by first | decide | omega)), (by first | assumption | exact st.c0 (by first | decide | omega) | exact st.c1 (by first | decide | omega) | exact st.c2 (by first | decide | omega) | exact st.c3 (by first | decide | omega) | exact st.c4 (by first | decide | omega) | exact st.c5 (by first | decide | omega) | exact st.c6 (by first | decide | omega) | exact st.c7 (by first | decide | omega) | exact st.c8 (by first | decide | omega)), (by first | assumption | exact st.c0 (by first | decide | omega) | exact st.c1 (by first | decide | omega) | exact st.c2 (by first | decide | omega) | exact st.c3 (by first | decide | omega) | exact st.c4 (by first | decide | omega) | exact st.c5 (by first | decide | omega) | exact st.c6 (by first | decide | omega) | exact st.c7 (by first | decide | omega) | exact st.c8 (by first | decide | omega)), (by first | assumption | exact st.c0 (by first | decide | omega) | exact st.c1 (by first | decide | omega) | exact st.c2 (by first | decide | omega) | exact st.c3 (by first | decide | omega) | exact st.c4 (by first | decide | omega) | exact st.c5 (by first | decide | omega) | exact st.c6 (by first | decide | omega) | exact st.c7 (by first | decide | omega) | exact st.c8 (by first | decide | omega)), trivial⟩) rfl rfl rfl ?_
      -- R10.2 31 := laws.go:54 call
      refine WL.call (r_call ty_call14 rfl) rfl rfl rfl (step_ok (o := op i) hg h hok (by omega) (st_inF [_, _, _, _] st.front1)) ?_
      rintro _ w ⟨D', dv, l1, h', rfl, hrv, st⟩
      obtain ⟨da, dn, dc, rfl⟩ := rv_sl hrv
      have st := st_l1 st
      have hli := hli.more (K' := l1 ++ K) (fun x hx => List.mem_append_right _ hx)
      -- R10.3 9 := laws.go:54 alloc
      refine WL.alloc (m := 2) st ty_zero37 rfl rfl rfl ?_
      intro b9 w st
      -- R10.4 None := laws.go:54 store
      first | refine WL.storeW (vs := [_, _]) st ty_agg37 rfl rfl rfl rfl rfl rfl ?_ | refine WL.storeL (vs := [_, _]) st ty_agg37 rfl rfl rfl rfl (by first | decide | omega) rfl rfl ?_ | refine WL.storeW (vs := [_, _]) st.front1 ty_agg37 rfl rfl rfl rfl rfl rfl ?_ | refine WL.storeL (vs := [_, _]) st.front1 ty_agg37 rfl rfl rfl rfl (by first | decide | omega) rfl rfl ?_ | refine WL.storeW (vs := [_, _]) st.front2 ty_agg37 rfl rfl rfl rfl rfl rfl ?_ | refine WL.storeL (vs := [_, _]) st.front2 ty_agg37 rfl rfl rfl rfl (by first | decide | omega) rfl rfl ?_ | refine WL.storeW (vs := [_, _]) st.front3 ty_agg37 rfl rfl rfl rfl rfl rfl ?_ | refine WL.storeL (vs := [_, _]) st.front3 ty_agg37 rfl rfl rfl rfl (by first | decide | omega) rfl rfl ?_ | refine WL.storeW (vs := [_, _]) st.front4 ty_agg37 rfl rfl rfl rfl rfl rfl ?_ | refine WL.storeL (vs := [_, _]) st.front4 ty_agg37 rfl rfl rfl rfl (by first | decide | omega) rfl rfl ?_ | refine WL.storeW (vs := [_, _]) st.front5 ty_agg37 rfl rfl rfl rfl rfl rfl ?_ | refine WL.storeL (vs := [_, _]) st.front5 ty_agg37 rfl rfl rfl rfl (by first | decide | omega) rfl rfl ?_ | refine WL.storeW (vs := [_, _]) st.front6 ty_agg37 rfl rfl rfl rfl rfl rfl ?_ | refine WL.storeL (vs := [_, _]) st.front6 ty_agg37 rfl rfl rfl rfl (by first | decide | omega) rfl rfl ?_ | refine WL.storeW (vs := [_, _]) st.front7 ty_agg37 rfl rfl rfl rfl rfl rfl ?_ | refine WL.storeL (vs := [_, _]) st.front7 ty_agg37 rfl rfl rfl rfl (by first | decide | omega) rfl rfl ?_ | refine WL.storeW (vs := [_, _]) st.front8 ty_agg37 rfl rfl rfl rfl rfl rfl ?_ | refine WL.storeL (vs := [_, _]) st.front8 ty_agg37 rfl rfl rfl rfl (by first | decide | omega) rfl rfl ?_
      intro w st
      refine WL.fin hK733 (fun _ _ h => h) ?_
      refine WC.seq fun K734 hK734 => ?_
      refine WC.seq fun K735 hK735 => ?_
      -- region 11
      refine WC.region ?_
      -- R11.0 32 := laws.go:55 move
      refine WL.v (by first | exact r_move (v := .pointer _) rfl | exact r_move rfl) rfl rfl rfl ?_
      -- R11.1 33 := laws.go:55 nilCheck
      refine WL.v (by exact r_nilCheck rfl) rfl rfl rfl ?_
      -- R11.2 34 := laws.go:55 fieldAddr
      refine WL.v (by exact r_field ty_fld42_0 rfl) rfl rfl rfl ?_
      -- R11.3 35 := laws.go:55 load
      refine WL.v (by exact r_load1 ty_one40 rfl (by first | assumption | exact st.c0 (by first | decide | omega) | exact st.c1 (by first | decide | omega) | exact st.c2 (by first | decide | omega) | exact st.c3 (by first | decide | omega) | exact st.c4 (by first | decide | omega) | exact st.c5 (by first | decide | omega) | exact st.c6 (by first | decide | omega) | exact st.c7 (by first | decide | omega) | exact st.c8 (by first | decide | omega))) rfl rfl rfl ?_
      -- R11.4 36 := laws.go:55 call
      refine WL.call (r_call ty_call17 rfl) rfl rfl rfl (isDown_ok (st_inF [_, _, _, _, _] st)) ?_
      rintro _ w ⟨rfl, st⟩
      have st := st_outF [_, _, _, _, _] st
      rw [h'.down, hdn]
      refine WL.fin hK735 (fun _ _ h => h) ?_
      refine WC.condT rfl rfl ?_
      refine WC.seq fun K736 hK736 => ?_
      -- region 12
      refine WC.region ?_
      -- R12.0 37 := laws.go:56 makeMap
      refine WL.mkmap (keyGood Tryd.prog 2) st rfl rfl ?_
      intro b37 w st
      -- R12.1 4 := laws.go:56 assign
      refine WL.v (by first | exact r_assign (v := .map _) rfl | exact r_assign rfl) rfl rfl rfl ?_
      -- R12.2 5 := laws.go:56 assign
      refine WL.v (by first | exact r_assign (v := .bool _) rfl | exact r_assign rfl) rfl rfl rfl ?_
      refine WL.fin hK736 (fun _ _ h => h) ?_
      refine WC.exitF hK731 (fun _ _ h => h) ?_
      -- region 35
      refine WC.region ?_
      -- R35.0 103 := laws.go:53 binOp
      refine WL.v (by exact r_add (r := ((i + 1 : Nat) : Int)) rfl rfl ((wi64 (by omega) (by omega)).trans (by omega))) rfl rfl rfl ?_
      -- R35.1 25 := laws.go:53 move
      refine WL.v (by first | exact r_move (v := .int _ _) rfl | exact r_move rfl) rfl rfl rfl ?_
      have st : S0 w0 (sI bs D'.bD :: (b37, MapV (keyGood Go.Proofs.Tryd.prog 2) (gOf fun _ => none)) :: iI b22 512 (fun _ => 0) :: DI D' 0 (l1 ++ K)) w := by rw [gOf_none]; exact st.drop1.front1.drop2.drop2
      refine WL.next hK1 (fun _ _ h => h) (D', (stepP P (op i)).1, i + 1, b37, fun _ => none, true, l1 ++ K) ⟨h', by show i + 1 ≤ n; omega, by show (stepP P (op i)).1.wr ≤ 128 * (i + 1); omega, LI.empty, st⟩ (by show n - (i + 1) < n - i; omega) (by repeat (first | exact sub_nil _ | refine sub_cons rfl rfl ?_))
    have hss := step_seen hl1 hs2 hdn
    by_cases hc : (stepP P (op i)).2 = 0
    rotate_left
    · have e : seenP (stepP P (op i)).1 = seenP P := by
        rcases hss with ⟨_, a, _⟩ | ⟨_, a, _⟩ | ⟨_, a⟩
        · exact absurd a hc
        · exact absurd a hc
        · exact a
      refine WC.seq fun K737 hK737 => ?_
      -- region 8
      refine WC.region ?_
      -- R8.0 26 := laws.go:53 binOp
      refine WL.v (by first | exact r_lss rfl rfl (decide_eq_true (by omega)) | exact r_lss rfl rfl (decide_eq_false (by omega)) | exact r_lss rfl rfl rfl) rfl rfl rfl ?_
      refine WL.fin hK737 (fun _ _ h => h) ?_
      refine WC.seq fun K738 hK738 => ?_
      refine WC.condT rfl rfl ?_
      refine WC.skipF hK738 (fun _ _ h => h) ?_
      refine WC.seq fun K739 hK739 => ?_
      refine WC.block ?_
      refine WC.seq fun K740 hK740 => ?_
      -- region 9
      refine WC.region ?_
      -- R9.0 27 := laws.go:53 indexAddr
      refine WL.v (by exact r_indexS (j := i) ty_sl22 rfl rfl rfl hlt) rfl rfl rfl ?_
      -- R9.1 28 := laws.go:53 load
      refine WL.v (v := (op i).v) (by exact r_loadL (vs := opC (op i)) ty_agg33 rfl ⟨hS.ld hlt st 0 (by decide), hS.ld hlt st 1 (by decide), hS.ld hlt st 2 (by decide), hS.ld hlt st 3 (by decide), hS.ld hlt st 4 (by decide), hS.ld hlt st 5 (by decide), hS.ld hlt st 6 (by decide), hS.ld hlt st 7 (by decide), hS.ld hlt st 8 (by decide), trivial⟩) rfl rfl rfl ?_
      -- R9.2 8 := laws.go:53 alloc
      refine WL.alloc (m := 9) st ty_zero33 rfl rfl rfl ?_
      intro b8 w st
      -- R9.3 None := laws.go:53 store
      first | refine WL.storeW (vs := [_, _, _, _, _, _, _, _, _]) st ty_agg33 rfl rfl rfl rfl rfl rfl ?_ | refine WL.storeL (vs := [_, _, _, _, _, _, _, _, _]) st ty_agg33 rfl rfl rfl rfl (by first | decide | omega) rfl rfl ?_ | refine WL.storeW (vs := [_, _, _, _, _, _, _, _, _]) st.front1 ty_agg33 rfl rfl rfl rfl rfl rfl ?_ | refine WL.storeL (vs := [_, _, _, _, _, _, _, _, _]) st.front1 ty_agg33 rfl rfl rfl rfl (by first | decide | omega) rfl rfl ?_ | refine WL.storeW (vs := [_, _, _, _, _, _, _, _, _]) st.front2 ty_agg33 rfl rfl rfl rfl rfl rfl ?_ | refine WL.storeL (vs := [_, _, _, _, _, _, _, _, _]) st.front2 ty_agg33 rfl rfl rfl rfl (by first | decide | omega) rfl rfl ?_ | refine WL.storeW (vs := [_, _, _, _, _, _, _, _, _]) st.front3 ty_agg33 rfl rfl rfl rfl rfl rfl ?_ | refine WL.storeL (vs := [_, _, _, _, _, _, _, _, _]) st.front3 ty_agg33 rfl rfl rfl rfl (by first | decide | omega) rfl rfl ?_ | refine WL.storeW (vs := [_, _, _, _, _, _, _, _, _]) st.front4 ty_agg33 rfl rfl rfl rfl rfl rfl ?_ | refine WL.storeL (vs := [_, _, _, _, _, _, _, _, _]) st.front4 ty_agg33 rfl rfl rfl rfl (by first | decide | omega) rfl rfl ?_ | refine WL.storeW (vs := [_, _, _, _, _, _, _, _, _]) st.front5 ty_agg33 rfl rfl rfl rfl rfl rfl ?_ | refine WL.storeL (vs := [_, _, _, _, _, _, _, _, _]) st.front5 ty_agg33 rfl rfl rfl rfl (by first | decide | omega) rfl rfl ?_ | refine WL.storeW (vs := [_, _, _, _, _, _, _, _, _]) st.front6 ty_agg33 rfl rfl rfl rfl rfl rfl ?_ | refine WL.storeL (vs := [_, _, _, _, _, _, _, _, _]) st.front6 ty_agg33 rfl rfl rfl rfl (by first | decide | omega) rfl rfl ?_ | refine WL.storeW (vs := [_, _, _, _, _, _, _, _, _]) st.front7 ty_agg33 rfl rfl rfl rfl rfl rfl ?_ | refine WL.storeL (vs := [_, _, _, _, _, _, _, _, _]) st.front7 ty_agg33 rfl rfl rfl rfl (by first | decide | omega) rfl rfl ?_ | refine WL.storeW (vs := [_, _, _, _, _, _, _, _, _]) st.front8 ty_agg33 rfl rfl rfl rfl rfl rfl ?_ | refine WL.storeL (vs := [_, _, _, _, _, _, _, _, _]) st.front8 ty_agg33 rfl rfl rfl rfl (by first | decide | omega) rfl rfl ?_
      intro w st
      refine WL.fin hK740 (fun _ _ h => h) ?_
      refine WC.seq fun K741 hK741 => ?_
      -- region 10
      refine WC.region ?_
      -- R10.0 29 := laws.go:54 move
      refine WL.v (by first | exact r_move (v := .pointer _) rfl | exact r_move rfl) rfl rfl rfl ?_
      -- R10.1 30 := laws.go:54 load
      refine WL.v (by exact r_loadL (vs := [_, _, _, _, _, _, _, _, _]) ty_agg33 rfl ⟨(by first | assumption | exact st.c0 (by first | decide | omega) | exact st.c1 (by first | decide | omega) | exact st.c2 (by first | decide | omega) | exact st.c3 (by first | decide | omega) | exact st.c4 (by first | decide | omega) | exact st.c5 (by first | decide | omega) | exact st.c6 (by first | decide | omega) | exact st.c7 (by first | decide | omega) | exact st.c8 (by first | decide | omega)), (by first | assumption | exact st.c0 (by first | decide | omega) | exact st.c1 (by first | decide | omega) | exact st.c2 (by first | decide | omega) | exact st.c3 (by first | decide | omega) | exact st.c4 (by first | decide | omega) | exact st.c5 (by first | decide | omega) | exact st.c6 (by first | decide | omega) | exact st.c7 (by first | decide | omega) | exact st.c8 (by first | decide | omega)), (by first | assumption | exact st.c0 (by first | decide | omega) | exact st.c1 (by first | decide | omega) | exact st.c2 (by first | decide | omega) | exact st.c3 (by first | decide | omega) | exact st.c4 (by first | decide | omega) | exact st.c5 (by first | decide | omega) | exact st.c6 (by first | decide | omega) | exact st.c7 (by first | decide | omega) | exact st.c8 (by first | decide | omega)), (by first | assumption | exact st.c0 (by first | decide | omega) | exact st.c1 (by first | decide | omega) | exact st.c2 (by first | decide | omega) | exact st.c3 (by first | decide | omega) | exact st.c4 (by first | decide | omega) | exact st.c5 (by first | decide | omega) | exact st.c6 (by first | decide | omega) | exact st.c7 (by first | decide | omega) | exact st.c8 (by first | decide | omega)), (by first | assumption | exact st.c0 (by first | decide | omega) | exact st.c1 (by first | decide | omega) | exact st.c2 (by first | decide | omega) | exact st.c3 (by first | decide | omega) | exact st.c4 (by first | decide | omega) | exact st.c5 (by first | decide | omega) | exact st.c6 (by first | decide | omega) | exact st.c7 (by first | decide | omega) | exact st.c8 (by first | decide | omega)), (by first | assumption | exact st.c0 (by first | decide | omega) | exact st.c1 (by first | decide | omega) | exact st.c2 (by first | decide | omega) | exact st.c3 (by first | decide | omega) | exact st.c4 (by first | decide | omega) | exact st.c5 (by first | decide | omega) | exact st.c6 (by first | decide | omega) | exact st.c7 (by first | decide | omega) | exact st.c8 (by first | decide | omega)), (by first | assumption | exact st.c0 (by first | decide | omega) | exact st.c1 (by first | decide | omega) | exact st.c2 (by first | decide | omega) | exact st.c3 (by first | decide | omega) | exact st.c4 (by first | decide | omega) | exact st.c5 (by first | decide | omega) | exact st.c6 (by first | decide | omega) | exact st.c7 (by first | decide | omega) | exact st.c8 (by first | decide | omega)), (by first | assumption | exact st.c0 (by first | decide | omega) | exact st.c1 (by first | decide | omega) | exact st.c2 (by first | decide | omega) | exact st.c3 (by first | decide | omega) | exact st.c4 (by first | decide | omega) | exact st.c5 (by first | decide | omega) | exact st.c6 (by first | decide | omega) | exact st.c7 (by first | decide | omega) | exact st.c8 (by first | decide | omega)), (by first | assumption | exact st.c0 (by first | decide | omega) | exact st.c1 (by first | decide | omega) | exact st.c2 (by first | decide | omega) | exact st.c3 (by first | decide | omega) | exact st.c4 (by first | decide | omega) | exact st.c5 (by first | decide | omega) | exact st.c6 (by first | decide | omega) | exact st.c7 (by first | decide | omega) | exact st.c8 (by first | decide | omega)), trivial⟩) rfl rfl rfl ?_
      -- R10.2 31 := laws.go:54 call
      refine WL.call (r_call ty_call14 rfl) rfl rfl rfl (step_ok (o := op i) hg h hok (by omega) (st_inF [_, _, _, _] st.front1)) ?_
      rintro _ w ⟨D', dv, l1, h', rfl, hrv, st⟩
      obtain ⟨da, dn, dc, rfl⟩ := rv_sl hrv
      have st := st_l1 st
      have hli := hli.more (K' := l1 ++ K) (fun x hx => List.mem_append_right _ hx)
      -- R10.3 9 := laws.go:54 alloc
      refine WL.alloc (m := 2) st ty_zero37 rfl rfl rfl ?_
      intro b9 w st
      -- R10.4 None := laws.go:54 store
      first | refine WL.storeW (vs := [_, _]) st ty_agg37 rfl rfl rfl rfl rfl rfl ?_ | refine WL.storeL (vs := [_, _]) st ty_agg37 rfl rfl rfl rfl (by first | decide | omega) rfl rfl ?_ | refine WL.storeW (vs := [_, _]) st.front1 ty_agg37 rfl rfl rfl rfl rfl rfl ?_ | refine WL.storeL (vs := [_, _]) st.front1 ty_agg37 rfl rfl rfl rfl (by first | decide | omega) rfl rfl ?_ | refine WL.storeW (vs := [_, _]) st.front2 ty_agg37 rfl rfl rfl rfl rfl rfl ?_ | refine WL.storeL (vs := [_, _]) st.front2 ty_agg37 rfl rfl rfl rfl (by first | decide | omega) rfl rfl ?_ | refine WL.storeW (vs := [_, _]) st.front3 ty_agg37 rfl rfl rfl rfl rfl rfl ?_ | refine WL.storeL (vs := [_, _]) st.front3 ty_agg37 rfl rfl rfl rfl (by first | decide | omega) rfl rfl ?_ | refine WL.storeW (vs := [_, _]) st.front4 ty_agg37 rfl rfl rfl rfl rfl rfl ?_ | refine WL.storeL (vs := [_, _]) st.front4 ty_agg37 rfl rfl rfl rfl (by first | decide | omega) rfl rfl ?_ | refine WL.storeW (vs := [_, _]) st.front5 ty_agg37 rfl rfl rfl rfl rfl rfl ?_ | refine WL.storeL (vs := [_, _]) st.front5 ty_agg37 rfl rfl rfl rfl (by first | decide | omega) rfl rfl ?_ | refine WL.storeW (vs := [_, _]) st.front6 ty_agg37 rfl rfl rfl rfl rfl rfl ?_ | refine WL.storeL (vs := [_, _]) st.front6 ty_agg37 rfl rfl rfl rfl (by first | decide | omega) rfl rfl ?_ | refine WL.storeW (vs := [_, _]) st.front7 ty_agg37 rfl rfl rfl rfl rfl rfl ?_ | refine WL.storeL (vs := [_, _]) st.front7 ty_agg37 rfl rfl rfl rfl (by first | decide | omega) rfl rfl ?_ | refine WL.storeW (vs := [_, _]) st.front8 ty_agg37 rfl rfl rfl rfl rfl rfl ?_ | refine WL.storeL (vs := [_, _]) st.front8 ty_agg37 rfl rfl rfl rfl (by first | decide | omega) rfl rfl ?_
      intro w st
      refine WL.fin hK741 (fun _ _ h => h) ?_
      refine WC.seq fun K742 hK742 => ?_
      refine WC.seq fun K743 hK743 => ?_
      -- region 11
      refine WC.region ?_
      -- R11.0 32 := laws.go:55 move
      refine WL.v (by first | exact r_move (v := .pointer _) rfl | exact r_move rfl) rfl rfl rfl ?_
      -- R11.1 33 := laws.go:55 nilCheck
      refine WL.v (by exact r_nilCheck rfl) rfl rfl rfl ?_
      -- R11.2 34 := laws.go:55 fieldAddr
      refine WL.v (by exact r_field ty_fld42_0 rfl) rfl rfl rfl ?_
      -- R11.3 35 := laws.go:55 load
      refine WL.v (by exact r_load1 ty_one40 rfl (by first | assumption | exact st.c0 (by first | decide | omega) | exact st.c1 (by first | decide | omega) | exact st.c2 (by first | decide | omega) | exact st.c3 (by first | decide | omega) | exact st.c4 (by first | decide | omega) | exact st.c5 (by first | decide | omega) | exact st.c6 (by first | decide | omega) | exact st.c7 (by first | decide | omega) | exact st.c8 (by first | decide | omega))) rfl rfl rfl ?_
      -- R11.4 36 := laws.go:55 call
      refine WL.call (r_call ty_call17 rfl) rfl rfl rfl (isDown_ok (st_inF [_, _, _, _, _] st)) ?_
      rintro _ w ⟨rfl, st⟩
      have st := st_outF [_, _, _, _, _] st
      rw [h'.down, hdn]
      refine WL.fin hK743 (fun _ _ h => h) ?_
      refine WC.condF rfl rfl ?_
      refine WC.skipF hK742 (fun _ _ h => h) ?_
      refine WC.seq fun K744 hK744 => ?_
      refine WC.seq fun K745 hK745 => ?_
      -- region 13
      refine WC.region ?_
      -- R13.0 38 := laws.go:59 fieldAddr
      refine WL.v (by exact r_field ty_fld37_0 rfl) rfl rfl rfl ?_
      -- R13.1 39 := laws.go:59 load
      refine WL.v (by exact r_load1 ty_one35 rfl (by first | assumption | exact st.c0 (by first | decide | omega) | exact st.c1 (by first | decide | omega) | exact st.c2 (by first | decide | omega) | exact st.c3 (by first | decide | omega) | exact st.c4 (by first | decide | omega) | exact st.c5 (by first | decide | omega) | exact st.c6 (by first | decide | omega) | exact st.c7 (by first | decide | omega) | exact st.c8 (by first | decide | omega))) rfl rfl rfl ?_
      -- R13.2 40 := laws.go:59 binOp
      refine WL.v (by first | exact r_neq rfl rfl (decide_eq_true (by omega)) | exact r_neq rfl rfl (decide_eq_false (by omega)) | exact r_neq rfl rfl rfl) rfl rfl rfl ?_
      refine WL.fin hK745 (fun _ _ h => h) ?_
      refine WC.condT rfl rfl ?_
      refine WC.exitF hK739 (fun _ _ h => h) ?_
      -- region 35
      refine WC.region ?_
      -- R35.0 103 := laws.go:53 binOp
      refine WL.v (by exact r_add (r := ((i + 1 : Nat) : Int)) rfl rfl ((wi64 (by omega) (by omega)).trans (by omega))) rfl rfl rfl ?_
      -- R35.1 25 := laws.go:53 move
      refine WL.v (by first | exact r_move (v := .int _ _) rfl | exact r_move rfl) rfl rfl rfl ?_
      refine WL.next hK1 (fun _ _ h => h) (D', (stepP P (op i)).1, i + 1, bm, NL, cr, l1 ++ K) ⟨h', by show i + 1 ≤ n; omega, by show (stepP P (op i)).1.wr ≤ 128 * (i + 1); omega, by show LI w0 _ (seenP (stepP P (op i)).1) _ _; rw [e]; exact hli, st.drop.drop1⟩ (by show n - (i + 1) < n - i; omega) (by repeat (first | exact sub_nil _ | refine sub_cons rfl rfl ?_))
    by_cases hk0 : (op i).kind = 0
    · have e : ∀ s j, seenP (stepP P (op i)).1 s j = 0 := by
        rcases hss with ⟨_, _, a⟩ | ⟨a, _⟩ | ⟨a, _⟩
        · exact a
        · omega
        · exact absurd ⟨hc, .inl hk0⟩ a
      refine WC.seq fun K746 hK746 => ?_
      -- region 8
      refine WC.region ?_
      -- R8.0 26 := laws.go:53 binOp
      refine WL.v (by first | exact r_lss rfl rfl (decide_eq_true (by omega)) | exact r_lss rfl rfl (decide_eq_false (by omega)) | exact r_lss rfl rfl rfl) rfl rfl rfl ?_
      refine WL.fin hK746 (fun _ _ h => h) ?_
      refine WC.seq fun K747 hK747 => ?_
      refine WC.condT rfl rfl ?_
      refine WC.skipF hK747 (fun _ _ h => h) ?_
      refine WC.seq fun K748 hK748 => ?_
      refine WC.block ?_
      refine WC.seq fun K749 hK749 => ?_
      -- region 9
      refine WC.region ?_
      -- R9.0 27 := laws.go:53 indexAddr
      refine WL.v (by exact r_indexS (j := i) ty_sl22 rfl rfl rfl hlt) rfl rfl rfl ?_
      -- R9.1 28 := laws.go:53 load
      refine WL.v (v := (op i).v) (by exact r_loadL (vs := opC (op i)) ty_agg33 rfl ⟨hS.ld hlt st 0 (by decide), hS.ld hlt st 1 (by decide), hS.ld hlt st 2 (by decide), hS.ld hlt st 3 (by decide), hS.ld hlt st 4 (by decide), hS.ld hlt st 5 (by decide), hS.ld hlt st 6 (by decide), hS.ld hlt st 7 (by decide), hS.ld hlt st 8 (by decide), trivial⟩) rfl rfl rfl ?_
      -- R9.2 8 := laws.go:53 alloc
      refine WL.alloc (m := 9) st ty_zero33 rfl rfl rfl ?_
      intro b8 w st
      -- R9.3 None := laws.go:53 store
      first | refine WL.storeW (vs := [_, _, _, _, _, _, _, _, _]) st ty_agg33 rfl rfl rfl rfl rfl rfl ?_ | refine WL.storeL (vs := [_, _, _, _, _, _, _, _, _]) st ty_agg33 rfl rfl rfl rfl (by first | decide | omega) rfl rfl ?_ | refine WL.storeW (vs := [_, _, _, _, _, _, _, _, _]) st.front1 ty_agg33 rfl rfl rfl rfl rfl rfl ?_ | refine WL.storeL (vs := [_, _, _, _, _, _, _, _, _]) st.front1 ty_agg33 rfl rfl rfl rfl (by first | decide | omega) rfl rfl ?_ | refine WL.storeW (vs := [_, _, _, _, _, _, _, _, _]) st.front2 ty_agg33 rfl rfl rfl rfl rfl rfl ?_ | refine WL.storeL (vs := [_, _, _, _, _, _, _, _, _]) st.front2 ty_agg33 rfl rfl rfl rfl (by first | decide | omega) rfl rfl ?_ | refine WL.storeW (vs := [_, _, _, _, _, _, _, _, _]) st.front3 ty_agg33 rfl rfl rfl rfl rfl rfl ?_ | refine WL.storeL (vs := [_, _, _, _, _, _, _, _, _]) st.front3 ty_agg33 rfl rfl rfl rfl (by first | decide | omega) rfl rfl ?_ | refine WL.storeW (vs := [_, _, _, _, _, _, _, _, _]) st.front4 ty_agg33 rfl rfl rfl rfl rfl rfl ?_ | refine WL.storeL (vs := [_, _, _, _, _, _, _, _, _]) st.front4 ty_agg33 rfl rfl rfl rfl (by first | decide | omega) rfl rfl ?_ | refine WL.storeW (vs := [_, _, _, _, _, _, _, _, _]) st.front5 ty_agg33 rfl rfl rfl rfl rfl rfl ?_ | refine WL.storeL (vs := [_, _, _, _, _, _, _, _, _]) st.front5 ty_agg33 rfl rfl rfl rfl (by first | decide | omega) rfl rfl ?_ | refine WL.storeW (vs := [_, _, _, _, _, _, _, _, _]) st.front6 ty_agg33 rfl rfl rfl rfl rfl rfl ?_ | refine WL.storeL (vs := [_, _, _, _, _, _, _, _, _]) st.front6 ty_agg33 rfl rfl rfl rfl (by first | decide | omega) rfl rfl ?_ | refine WL.storeW (vs := [_, _, _, _, _, _, _, _, _]) st.front7 ty_agg33 rfl rfl rfl rfl rfl rfl ?_ | refine WL.storeL (vs := [_, _, _, _, _, _, _, _, _]) st.front7 ty_agg33 rfl rfl rfl rfl (by first | decide | omega) rfl rfl ?_ | refine WL.storeW (vs := [_, _, _, _, _, _, _, _, _]) st.front8 ty_agg33 rfl rfl rfl rfl rfl rfl ?_ | refine WL.storeL (vs := [_, _, _, _, _, _, _, _, _]) st.front8 ty_agg33 rfl rfl rfl rfl (by first | decide | omega) rfl rfl ?_
      intro w st
      refine WL.fin hK749 (fun _ _ h => h) ?_
      refine WC.seq fun K750 hK750 => ?_
      -- region 10
      refine WC.region ?_
      -- R10.0 29 := laws.go:54 move
      refine WL.v (by first | exact r_move (v := .pointer _) rfl | exact r_move rfl) rfl rfl rfl ?_
      -- R10.1 30 := laws.go:54 load
      refine WL.v (by exact r_loadL (vs := [_, _, _, _, _, _, _, _, _]) ty_agg33 rfl ⟨(by first | assumption | exact st.c0 (by first | decide | omega) | exact st.c1 (by first | decide | omega) | exact st.c2 (by first | decide | omega) | exact st.c3 (by first | decide | omega) | exact st.c4 (by first | decide | omega) | exact st.c5 (by first | decide | omega) | exact st.c6 (by first | decide | omega) | exact st.c7 (by first | decide | omega) | exact st.c8 (by first | decide | omega)), (by first | assumption | exact st.c0 (by first | decide | omega) | exact st.c1 (by first | decide | omega) | exact st.c2 (by first | decide | omega) | exact st.c3 (by first | decide | omega) | exact st.c4 (by first | decide | omega) | exact st.c5 (by first | decide | omega) | exact st.c6 (by first | decide | omega) | exact st.c7 (by first | decide | omega) | exact st.c8 (by first | decide | omega)), (by first | assumption | exact st.c0 (by first | decide | omega) | exact st.c1 (by first | decide | omega) | exact st.c2 (by first | decide | omega) | exact st.c3 (by first | decide | omega) | exact st.c4 (by first | decide | omega) | exact st.c5 (by first | decide | omega) | exact st.c6 (by first | decide | omega) | exact st.c7 (by first | decide | omega) | exact st.c8 (by first | decide | omega)), (by first | assumption | exact st.c0 (by first | decide | omega) | exact st.c1 (by first | decide | omega) | exact st.c2 (by first | decide | omega) | exact st.c3 (by first | decide | omega) | exact st.c4 (by first | decide | omega) | exact st.c5 (by first | decide | omega) | exact st.c6 (by first | decide | omega) | exact st.c7 (by first | decide | omega) | exact st.c8 (by first | decide | omega)), (by first | assumption | exact st.c0 (by first | decide | omega) | exact st.c1 (by first | decide | omega) | exact st.c2 (by first | decide | omega) | exact st.c3 (by first | decide | omega) | exact st.c4 (by first | decide | omega) | exact st.c5 (by first | decide | omega) | exact st.c6 (by first | decide | omega) | exact st.c7 (by first | decide | omega) | exact st.c8 (by first | decide | omega)), (by first | assumption | exact st.c0 (by first | decide | omega) | exact st.c1 (by first | decide | omega) | exact st.c2 (by first | decide | omega) | exact st.c3 (by first | decide | omega) | exact st.c4 (by first | decide | omega) | exact st.c5 (by first | decide | omega) | exact st.c6 (by first | decide | omega) | exact st.c7 (by first | decide | omega) | exact st.c8 (by first | decide | omega)), (by first | assumption | exact st.c0 (by first | decide | omega) | exact st.c1 (by first | decide | omega) | exact st.c2 (by first | decide | omega) | exact st.c3 (by first | decide | omega) | exact st.c4 (by first | decide | omega) | exact st.c5 (by first | decide | omega) | exact st.c6 (by first | decide | omega) | exact st.c7 (by first | decide | omega) | exact st.c8 (by first | decide | omega)), (by first | assumption | exact st.c0 (by first | decide | omega) | exact st.c1 (by first | decide | omega) | exact st.c2 (by first | decide | omega) | exact st.c3 (by first | decide | omega) | exact st.c4 (by first | decide | omega) | exact st.c5 (by first | decide | omega) | exact st.c6 (by first | decide | omega) | exact st.c7 (by first | decide | omega) | exact st.c8 (by first | decide | omega)), (by first | assumption | exact st.c0 (by first | decide | omega) | exact st.c1 (by first | decide | omega) | exact st.c2 (by first | decide | omega) | exact st.c3 (by first | decide | omega) | exact st.c4 (by first | decide | omega) | exact st.c5 (by first | decide | omega) | exact st.c6 (by first | decide | omega) | exact st.c7 (by first | decide | omega) | exact st.c8 (by first | decide | omega)), trivial⟩) rfl rfl rfl ?_
      -- R10.2 31 := laws.go:54 call
      refine WL.call (r_call ty_call14 rfl) rfl rfl rfl (step_ok (o := op i) hg h hok (by omega) (st_inF [_, _, _, _] st.front1)) ?_
      rintro _ w ⟨D', dv, l1, h', rfl, hrv, st⟩
      obtain ⟨da, dn, dc, rfl⟩ := rv_sl hrv
      have st := st_l1 st
      have hli := hli.more (K' := l1 ++ K) (fun x hx => List.mem_append_right _ hx)
      -- R10.3 9 := laws.go:54 alloc
      refine WL.alloc (m := 2) st ty_zero37 rfl rfl rfl ?_
      intro b9 w st
      -- R10.4 None := laws.go:54 store
      first | refine WL.storeW (vs := [_, _]) st ty_agg37 rfl rfl rfl rfl rfl rfl ?_ | refine WL.storeL (vs := [_, _]) st ty_agg37 rfl rfl rfl rfl (by first | decide | omega) rfl rfl ?_ | refine WL.storeW (vs := [_, _]) st.front1 ty_agg37 rfl rfl rfl rfl rfl rfl ?_ | refine WL.storeL (vs := [_, _]) st.front1 ty_agg37 rfl rfl rfl rfl (by first | decide | omega) rfl rfl ?_ | refine WL.storeW (vs := [_, _]) st.front2 ty_agg37 rfl rfl rfl rfl rfl rfl ?_ | refine WL.storeL (vs := [_, _]) st.front2 ty_agg37 rfl rfl rfl rfl (by first | decide | omega) rfl rfl ?_ | refine WL.storeW (vs := [_, _]) st.front3 ty_agg37 rfl rfl rfl rfl rfl rfl ?_ | refine WL.storeL (vs := [_, _]) st.front3 ty_agg37 rfl rfl rfl rfl (by first | decide | omega) rfl rfl ?_ | refine WL.storeW (vs := [_, _]) st.front4 ty_agg37 rfl rfl rfl rfl rfl rfl ?_ | refine WL.storeL (vs := [_, _]) st.front4 ty_agg37 rfl rfl rfl rfl (by first | decide | omega) rfl rfl ?_ | refine WL.storeW (vs := [_, _]) st.front5 ty_agg37 rfl rfl rfl rfl rfl rfl ?_ | refine WL.storeL (vs := [_, _]) st.front5 ty_agg37 rfl rfl rfl rfl (by first | decide | omega) rfl rfl ?_ | refine WL.storeW (vs := [_, _]) st.front6 ty_agg37 rfl rfl rfl rfl rfl rfl ?_ | refine WL.storeL (vs := [_, _]) st.front6 ty_agg37 rfl rfl rfl rfl (by first | decide | omega) rfl rfl ?_ | refine WL.storeW (vs := [_, _]) st.front7 ty_agg37 rfl rfl rfl rfl rfl rfl ?_ | refine WL.storeL (vs := [_, _]) st.front7 ty_agg37 rfl rfl rfl rfl (by first | decide | omega) rfl rfl ?_ | refine WL.storeW (vs := [_, _]) st.front8 ty_agg37 rfl rfl rfl rfl rfl rfl ?_ | refine WL.storeL (vs := [_, _]) st.front8 ty_agg37 rfl rfl rfl rfl (by first | decide | omega) rfl rfl ?_
      intro w st
      refine WL.fin hK750 (fun _ _ h => h) ?_
      refine WC.seq fun K751 hK751 => ?_
      refine WC.seq fun K752 hK752 => ?_
      -- region 11
      refine WC.region ?_
      -- R11.0 32 := laws.go:55 move
      refine WL.v (by first | exact r_move (v := .pointer _) rfl | exact r_move rfl) rfl rfl rfl ?_
      -- R11.1 33 := laws.go:55 nilCheck
      refine WL.v (by exact r_nilCheck rfl) rfl rfl rfl ?_
      -- R11.2 34 := laws.go:55 fieldAddr
      refine WL.v (by exact r_field ty_fld42_0 rfl) rfl rfl rfl ?_
      -- R11.3 35 := laws.go:55 load
      refine WL.v (by exact r_load1 ty_one40 rfl (by first | assumption | exact st.c0 (by first | decide | omega) | exact st.c1 (by first | decide | omega) | exact st.c2 (by first | decide | omega) | exact st.c3 (by first | decide | omega) | exact st.c4 (by first | decide | omega) | exact st.c5 (by first | decide | omega) | exact st.c6 (by first | decide | omega) | exact st.c7 (by first | decide | omega) | exact st.c8 (by first | decide | omega))) rfl rfl rfl ?_
      -- R11.4 36 := laws.go:55 call
      refine WL.call (r_call ty_call17 rfl) rfl rfl rfl (isDown_ok (st_inF [_, _, _, _, _] st)) ?_
      rintro _ w ⟨rfl, st⟩
      have st := st_outF [_, _, _, _, _] st
      rw [h'.down, hdn]
      refine WL.fin hK752 (fun _ _ h => h) ?_
      refine WC.condF rfl rfl ?_
      refine WC.skipF hK751 (fun _ _ h => h) ?_
      refine WC.seq fun K753 hK753 => ?_
      refine WC.seq fun K754 hK754 => ?_
      -- region 13
      refine WC.region ?_
      -- R13.0 38 := laws.go:59 fieldAddr
      refine WL.v (by exact r_field ty_fld37_0 rfl) rfl rfl rfl ?_
      -- R13.1 39 := laws.go:59 load
      refine WL.v (by exact r_load1 ty_one35 rfl (by first | assumption | exact st.c0 (by first | decide | omega) | exact st.c1 (by first | decide | omega) | exact st.c2 (by first | decide | omega) | exact st.c3 (by first | decide | omega) | exact st.c4 (by first | decide | omega) | exact st.c5 (by first | decide | omega) | exact st.c6 (by first | decide | omega) | exact st.c7 (by first | decide | omega) | exact st.c8 (by first | decide | omega))) rfl rfl rfl ?_
      -- R13.2 40 := laws.go:59 binOp
      refine WL.v (by first | exact r_neq rfl rfl (decide_eq_true (by omega)) | exact r_neq rfl rfl (decide_eq_false (by omega)) | exact r_neq rfl rfl rfl) rfl rfl rfl ?_
      refine WL.fin hK754 (fun _ _ h => h) ?_
      refine WC.condF rfl rfl ?_
      refine WC.skipF hK753 (fun _ _ h => h) ?_
      refine WC.seq fun K755 hK755 => ?_
      -- region 14
      refine WC.region ?_
      -- R14.0 41 := laws.go:62 fieldAddr
      refine WL.v (by exact r_field ty_fld33_0 rfl) rfl rfl rfl ?_
      -- R14.1 42 := laws.go:62 load
      refine WL.v (by exact r_load1 ty_one28 rfl (by first | assumption | exact st.c0 (by first | decide | omega) | exact st.c1 (by first | decide | omega) | exact st.c2 (by first | decide | omega) | exact st.c3 (by first | decide | omega) | exact st.c4 (by first | decide | omega) | exact st.c5 (by first | decide | omega) | exact st.c6 (by first | decide | omega) | exact st.c7 (by first | decide | omega) | exact st.c8 (by first | decide | omega))) rfl rfl rfl ?_
      refine WL.fin hK755 (fun _ _ h => h) ?_
      refine WC.block ?_
      refine WC.seq fun K756 hK756 => ?_
      -- region 15
      refine WC.region ?_
      -- R15.0 44 := laws.go:63 binOp
      refine WL.v (by first | exact r_eql rfl rfl (decide_eq_true (by omega)) | exact r_eql rfl rfl (decide_eq_false (by omega)) | exact r_eql rfl rfl rfl) rfl rfl rfl ?_
      -- R15.1 43 := laws.go:63 assign
      refine WL.v (by first | exact r_assign (v := .bool _) rfl | exact r_assign rfl) rfl rfl rfl ?_
      refine WL.fin hK756 (fun _ _ h => h) ?_
      refine WC.condT rfl rfl ?_
      -- region 16
      refine WC.region ?_
      -- R16.0 45 := laws.go:64 makeMap
      refine WL.mkmap (keyGood Tryd.prog 2) st rfl rfl ?_
      intro b45 w st
      -- R16.1 4 := laws.go:64 assign
      refine WL.v (by first | exact r_assign (v := .map _) rfl | exact r_assign rfl) rfl rfl rfl ?_
      -- R16.2 5 := laws.go:64 assign
      refine WL.v (by first | exact r_assign (v := .bool _) rfl | exact r_assign rfl) rfl rfl rfl ?_
      refine WL.fin hK748 (fun _ _ h => h) ?_
      -- region 35
      refine WC.region ?_
      -- R35.0 103 := laws.go:53 binOp
      refine WL.v (by exact r_add (r := ((i + 1 : Nat) : Int)) rfl rfl ((wi64 (by omega) (by omega)).trans (by omega))) rfl rfl rfl ?_
      -- R35.1 25 := laws.go:53 move
      refine WL.v (by first | exact r_move (v := .int _ _) rfl | exact r_move rfl) rfl rfl rfl ?_
      have st : S0 w0 (sI bs D'.bD :: (b45, MapV (keyGood Go.Proofs.Tryd.prog 2) (gOf fun _ => none)) :: iI b22 512 (fun _ => 0) :: DI D' 0 (l1 ++ K)) w := by rw [gOf_none]; exact st.drop1.front1.drop2.drop2
      refine WL.next hK1 (fun _ _ h => h) (D', (stepP P (op i)).1, i + 1, b45, fun _ => none, false, l1 ++ K) ⟨h', by show i + 1 ≤ n; omega, by show (stepP P (op i)).1.wr ≤ 128 * (i + 1); omega, LI.fresh e, st⟩ (by show n - (i + 1) < n - i; omega) (by repeat (first | exact sub_nil _ | refine sub_cons rfl rfl ?_))
    by_cases hk1 : (op i).kind = 1
    · obtain ⟨q1, q2, q3, q4⟩ : 0 ≤ (op i).sct ∧ (op i).sct ≤ 65536 ∧ (op i).dat.bs.length / 512 ≤ 65536 ∧ seenP (stepP P (op i)).1 = wrS (op i).dat.bs (op i).sct.toNat 0 ((op i).dat.bs.length / 512) (seenP P) := by
        rcases hss with ⟨a, _⟩ | ⟨_, _, a⟩ | ⟨a, _⟩
        · omega
        · exact a
        · exact absurd ⟨hc, .inr hk1⟩ a
      obtain ⟨sn, hsn⟩ := Int.eq_ofNat_of_zero_le q1
      have hsn : (op i).sct = (sn : Int) := hsn
      rw [hsn] at q2 q4
      have q4 : seenP (stepP P (op i)).1 = wrS (op i).dat.bs sn 0 ((op i).dat.bs.length / 512) (seenP P) := q4
      have hdle := hok.dat.le; have hdcap := hok.dat.cap; have hdl := hok.datl
      refine WC.seq fun K757 hK757 => ?_
      -- region 8
      refine WC.region ?_
      -- R8.0 26 := laws.go:53 binOp
      refine WL.v (by first | exact r_lss rfl rfl (decide_eq_true (by omega)) | exact r_lss rfl rfl (decide_eq_false (by omega)) | exact r_lss rfl rfl rfl) rfl rfl rfl ?_
      refine WL.fin hK757 (fun _ _ h => h) ?_
      refine WC.seq fun K758 hK758 => ?_
      refine WC.condT rfl rfl ?_
      refine WC.skipF hK758 (fun _ _ h => h) ?_
      refine WC.seq fun K759 hK759 => ?_
      refine WC.block ?_
      refine WC.seq fun K760 hK760 => ?_
      -- region 9
      refine WC.region ?_
      -- R9.0 27 := laws.go:53 indexAddr
      refine WL.v (by exact r_indexS (j := i) ty_sl22 rfl rfl rfl hlt) rfl rfl rfl ?_
      -- R9.1 28 := laws.go:53 load
      refine WL.v (v := (op i).v) (by exact r_loadL (vs := opC (op i)) ty_agg33 rfl ⟨hS.ld hlt st 0 (by decide), hS.ld hlt st 1 (by decide), hS.ld hlt st 2 (by decide), hS.ld hlt st 3 (by decide), hS.ld hlt st 4 (by decide), hS.ld hlt st 5 (by decide), hS.ld hlt st 6 (by decide), hS.ld hlt st 7 (by decide), hS.ld hlt st 8 (by decide), trivial⟩) rfl rfl rfl ?_
      -- R9.2 8 := laws.go:53 alloc
      refine WL.alloc (m := 9) st ty_zero33 rfl rfl rfl ?_
      intro b8 w st
      -- R9.3 None := laws.go:53 store
      first | refine WL.storeW (vs := [_, _, _, _, _, _, _, _, _]) st ty_agg33 rfl rfl rfl rfl rfl rfl ?_ | refine WL.storeL (vs := [_, _, _, _, _, _, _, _, _]) st ty_agg33 rfl rfl rfl rfl (by first | decide | omega) rfl rfl ?_ | refine WL.storeW (vs := [_, _, _, _, _, _, _, _, _]) st.front1 ty_agg33 rfl rfl rfl rfl rfl rfl ?_ | refine WL.storeL (vs := [_, _, _, _, _, _, _, _, _]) st.front1 ty_agg33 rfl rfl rfl rfl (by first | decide | omega) rfl rfl ?_ | refine WL.storeW (vs := [_, _, _, _, _, _, _, _, _]) st.front2 ty_agg33 rfl rfl rfl rfl rfl rfl ?_ | refine WL.storeL (vs := [_, _, _, _, _, _, _, _, _]) st.front2 ty_agg33 rfl rfl rfl rfl (by first | decide | omega) rfl rfl ?_ | refine WL.storeW (vs := [_, _, _, _, _, _, _, _, _]) st.front3 ty_agg33 rfl rfl rfl rfl rfl rfl ?_ | refine WL.storeL (vs := [_, _, _, _, _, _, _, _, _]) st.front3 ty_agg33 rfl rfl rfl rfl (by first | decide | omega) rfl rfl ?_ | refine WL.storeW (vs := [_, _, _, _, _, _, _, _, _]) st.front4 ty_agg33 rfl rfl rfl rfl rfl rfl ?_ | refine WL.storeL (vs := [_, _, _, _, _, _, _, _, _]) st.front4 ty_agg33 rfl rfl rfl rfl (by first | decide | omega) rfl rfl ?_ | refine WL.storeW (vs := [_, _, _, _, _, _, _, _, _]) st.front5 ty_agg33 rfl rfl rfl rfl rfl rfl ?_ | refine WL.storeL (vs := [_, _, _, _, _, _, _, _, _]) st.front5 ty_agg33 rfl rfl rfl rfl (by first | decide | omega) rfl rfl ?_ | refine WL.storeW (vs := [_, _, _, _, _, _, _, _, _]) st.front6 ty_agg33 rfl rfl rfl rfl rfl rfl ?_ | refine WL.storeL (vs := [_, _, _, _, _, _, _, _, _]) st.front6 ty_agg33 rfl rfl rfl rfl (by first | decide | omega) rfl rfl ?_ | refine WL.storeW (vs := [_, _, _, _, _, _, _, _, _]) st.front7 ty_agg33 rfl rfl rfl rfl rfl rfl ?_ | refine WL.storeL (vs := [_, _, _, _, _, _, _, _, _]) st.front7 ty_agg33 rfl rfl rfl rfl (by first | decide | omega) rfl rfl ?_ | refine WL.storeW (vs := [_, _, _, _, _, _, _, _, _]) st.front8 ty_agg33 rfl rfl rfl rfl rfl rfl ?_ | refine WL.storeL (vs := [_, _, _, _, _, _, _, _, _]) st.front8 ty_agg33 rfl rfl rfl rfl (by first | decide | omega) rfl rfl ?_
      intro w st
      refine WL.fin hK760 (fun _ _ h => h) ?_
      refine WC.seq fun K761 hK761 => ?_
      -- region 10
      refine WC.region ?_
      -- R10.0 29 := laws.go:54 move
      refine WL.v (by first | exact r_move (v := .pointer _) rfl | exact r_move rfl) rfl rfl rfl ?_
      -- R10.1 30 := laws.go:54 load
      refine WL.v (by exact r_loadL (vs := [_, _, _, _, _, _, _, _, _]) ty_agg33 rfl ⟨(by first | assumption | exact st.c0 (by first | decide | omega) | exact st.c1 (by first | decide | omega) | exact st.c2 (by first | decide | omega) | exact st.c3 (by first | decide | omega) | exact st.c4 (by first | decide | omega) | exact st.c5 (by first | decide | omega) | exact st.c6 (by first | decide | omega) | exact st.c7 (by first | decide | omega) | exact st.c8 (by first | decide | omega)), (by first | assumption | exact st.c0 (by first | decide | omega) | exact st.c1 (by first | decide | omega) | exact st.c2 (by first | decide | omega) | exact st.c3 (by first | decide | omega) | exact st.c4 (by first | decide | omega) | exact st.c5 (by first | decide | omega) | exact st.c6 (by first | decide | omega) | exact st.c7 (by first | decide | omega) | exact st.c8 (by first | decide | omega)), (by first | assumption | exact st.c0 (by first | decide | omega) | exact st.c1 (by first | decide | omega) | exact st.c2 (by first | decide | omega) | exact st.c3 (by first | decide | omega) | exact st.c4 (by first | decide | omega) | exact st.c5 (by first | decide | omega) | exact st.c6 (by first | decide | omega) | exact st.c7 (by first | decide | omega) | exact st.c8 (by first | decide | omega)), (by first | assumption | exact st.c0 (by first | decide | omega) | exact st.c1 (by first | decide | omega) | exact st.c2 (by first | decide | omega) | exact st.c3 (by first | decide | omega) | exact st.c4 (by first | decide | omega) | exact st.c5 (by first | decide | omega) | exact st.c6 (by first | decide | omega) | exact st.c7 (by first | decide | omega) | exact st.c8 (by first | decide | omega)), (by first | assumption | exact st.c0 (by first | decide | omega) | exact st.c1 (by first | decide | omega) | exact st.c2 (by first | decide | omega) | exact st.c3 (by first | decide | omega) | exact st.c4 (by first | decide | omega) | exact st.c5 (by first | decide | omega) | exact st.c6 (by first | decide | omega) | exact st.c7 (by first | decide | omega) | exact st.c8 (by first | decide | omega)), (by first | assumption | exact st.c0 (by first | decide | omega) | exact st.c1 (by first | decide | omega) | exact st.c2 (by first | decide | omega) | exact st.c3 (by first | decide | omega) | exact st.c4 (by first | decide | omega) | exact st.c5 (by first | decide | omega) | exact st.c6 (by first | decide | omega) | exact st.c7 (by first | decide | omega) | exact st.c8 (by first | decide | omega)), (by first | assumption | exact st.c0 (by first | decide | omega) | exact st.c1 (by first | decide | omega) | exact st.c2 (by first | decide | omega) | exact st.c3 (by first | decide | omega) | exact st.c4 (by first | decide | omega) | exact st.c5 (by first | decide | omega) | exact st.c6 (by first | decide | omega) | exact st.c7 (by first | decide | omega) | exact st.c8 (by first | decide | omega)), (by first | assumption | exact st.c0 (by first | decide | omega) | exact st.c1 (by first | decide | omega) | exact st.c2 (by first | decide | omega) | exact st.c3 (by first | decide | omega) | exact st.c4 (by first | decide | omega) | exact st.c5 (by first | decide | omega) | exact st.c6 (by first | decide | omega) | exact st.c7 (by first | decide | omega) | exact st.c8 (by first | decide | omega)), (by first | assumption | exact st.c0 (by first | decide | omega) | exact st.c1 (by first | decide | omega) | exact st.c2 (by first | decide | omega) | exact st.c3 (by first | decide | omega) | exact st.c4 (by first | decide | omega) | exact st.c5 (by first | decide | omega) | exact st.c6 (by first | decide | omega) | exact st.c7 (by first | decide | omega) | exact st.c8 (by first | decide | omega)), trivial⟩) rfl rfl rfl ?_
      -- R10.2 31 := laws.go:54 call
      refine WL.call (r_call ty_call14 rfl) rfl rfl rfl (step_ok (o := op i) hg h hok (by omega) (st_inF [_, _, _, _] st.front1)) ?_
      rintro _ w ⟨D', dv, l1, h', rfl, hrv, st⟩
      obtain ⟨da, dn, dc, rfl⟩ := rv_sl hrv
      have st := st_l1 st
      have hli := hli.more (K' := l1 ++ K) (fun x hx => List.mem_append_right _ hx)
      -- R10.3 9 := laws.go:54 alloc
      refine WL.alloc (m := 2) st ty_zero37 rfl rfl rfl ?_
      intro b9 w st
      -- R10.4 None := laws.go:54 store
      first | refine WL.storeW (vs := [_, _]) st ty_agg37 rfl rfl rfl rfl rfl rfl ?_ | refine WL.storeL (vs := [_, _]) st ty_agg37 rfl rfl rfl rfl (by first | decide | omega) rfl rfl ?_ | refine WL.storeW (vs := [_, _]) st.front1 ty_agg37 rfl rfl rfl rfl rfl rfl ?_ | refine WL.storeL (vs := [_, _]) st.front1 ty_agg37 rfl rfl rfl rfl (by first | decide | omega) rfl rfl ?_ | refine WL.storeW (vs := [_, _]) st.front2 ty_agg37 rfl rfl rfl rfl rfl rfl ?_ | refine WL.storeL (vs := [_, _]) st.front2 ty_agg37 rfl rfl rfl rfl (by first | decide | omega) rfl rfl ?_ | refine WL.storeW (vs := [_, _]) st.front3 ty_agg37 rfl rfl rfl rfl rfl rfl ?_ | refine WL.storeL (vs := [_, _]) st.front3 ty_agg37 rfl rfl rfl rfl (by first | decide | omega) rfl rfl ?_ | refine WL.storeW (vs := [_, _]) st.front4 ty_agg37 rfl rfl rfl rfl rfl rfl ?_ | refine WL.storeL (vs := [_, _]) st.front4 ty_agg37 rfl rfl rfl rfl (by first | decide | omega) rfl rfl ?_ | refine WL.storeW (vs := [_, _]) st.front5 ty_agg37 rfl rfl rfl rfl rfl rfl ?_ | refine WL.storeL (vs := [_, _]) st.front5 ty_agg37 rfl rfl rfl rfl (by first | decide | omega) rfl rfl ?_ | refine WL.storeW (vs := [_, _]) st.front6 ty_agg37 rfl rfl rfl rfl rfl rfl ?_ | refine WL.storeL (vs := [_, _]) st.front6 ty_agg37 rfl rfl rfl rfl (by first | decide | omega) rfl rfl ?_ | refine WL.storeW (vs := [_, _]) st.front7 ty_agg37 rfl rfl rfl rfl rfl rfl ?_ | refine WL.storeL (vs := [_, _]) st.front7 ty_agg37 rfl rfl rfl rfl (by first | decide | omega) rfl rfl ?_ | refine WL.storeW (vs := [_, _]) st.front8 ty_agg37 rfl rfl rfl rfl rfl rfl ?_ | refine WL.storeL (vs := [_, _]) st.front8 ty_agg37 rfl rfl rfl rfl (by first | decide | omega) rfl rfl ?_
      intro w st
      refine WL.fin hK761 (fun _ _ h => h) ?_
      refine WC.seq fun K762 hK762 => ?_
      refine WC.seq fun K763 hK763 => ?_
      -- region 11
      refine WC.region ?_
      -- R11.0 32 := laws.go:55 move
      refine WL.v (by first | exact r_move (v := .pointer _) rfl | exact r_move rfl) rfl rfl rfl ?_
      -- R11.1 33 := laws.go:55 nilCheck
      refine WL.v (by exact r_nilCheck rfl) rfl rfl rfl ?_
      -- R11.2 34 := laws.go:55 fieldAddr
      refine WL.v (by exact r_field ty_fld42_0 rfl) rfl rfl rfl ?_
      -- R11.3 35 := laws.go:55 load
      refine WL.v (by exact r_load1 ty_one40 rfl (by first | assumption | exact st.c0 (by first | decide | omega) | exact st.c1 (by first | decide | omega) | exact st.c2 (by first | decide | omega) | exact st.c3 (by first | decide | omega) | exact st.c4 (by first | decide | omega) | exact st.c5 (by first | decide | omega) | exact st.c6 (by first | decide | omega) | exact st.c7 (by first | decide | omega) | exact st.c8 (by first | decide | omega))) rfl rfl rfl ?_
      -- R11.4 36 := laws.go:55 call
      refine WL.call (r_call ty_call17 rfl) rfl rfl rfl (isDown_ok (st_inF [_, _, _, _, _] st)) ?_
      rintro _ w ⟨rfl, st⟩
      have st := st_outF [_, _, _, _, _] st
      rw [h'.down, hdn]
      refine WL.fin hK763 (fun _ _ h => h) ?_
      refine WC.condF rfl rfl ?_
      refine WC.skipF hK762 (fun _ _ h => h) ?_
      refine WC.seq fun K764 hK764 => ?_
      refine WC.seq fun K765 hK765 => ?_
      -- region 13
      refine WC.region ?_
      -- R13.0 38 := laws.go:59 fieldAddr
      refine WL.v (by exact r_field ty_fld37_0 rfl) rfl rfl rfl ?_
      -- R13.1 39 := laws.go:59 load
      refine WL.v (by exact r_load1 ty_one35 rfl (by first | assumption | exact st.c0 (by first | decide | omega) | exact st.c1 (by first | decide | omega) | exact st.c2 (by first | decide | omega) | exact st.c3 (by first | decide | omega) | exact st.c4 (by first | decide | omega) | exact st.c5 (by first | decide | omega) | exact st.c6 (by first | decide | omega) | exact st.c7 (by first | decide | omega) | exact st.c8 (by first | decide | omega))) rfl rfl rfl ?_
      -- R13.2 40 := laws.go:59 binOp
      refine WL.v (by first | exact r_neq rfl rfl (decide_eq_true (by omega)) | exact r_neq rfl rfl (decide_eq_false (by omega)) | exact r_neq rfl rfl rfl) rfl rfl rfl ?_
      refine WL.fin hK765 (fun _ _ h => h) ?_
      refine WC.condF rfl rfl ?_
      refine WC.skipF hK764 (fun _ _ h => h) ?_
      refine WC.seq fun K766 hK766 => ?_
      -- region 14
      refine WC.region ?_
      -- R14.0 41 := laws.go:62 fieldAddr
      refine WL.v (by exact r_field ty_fld33_0 rfl) rfl rfl rfl ?_
      -- R14.1 42 := laws.go:62 load
      refine WL.v (by exact r_load1 ty_one28 rfl (by first | assumption | exact st.c0 (by first | decide | omega) | exact st.c1 (by first | decide | omega) | exact st.c2 (by first | decide | omega) | exact st.c3 (by first | decide | omega) | exact st.c4 (by first | decide | omega) | exact st.c5 (by first | decide | omega) | exact st.c6 (by first | decide | omega) | exact st.c7 (by first | decide | omega) | exact st.c8 (by first | decide | omega))) rfl rfl rfl ?_
      refine WL.fin hK766 (fun _ _ h => h) ?_
      refine WC.block ?_
      refine WC.seq fun K767 hK767 => ?_
      -- region 15
      refine WC.region ?_
      -- R15.0 44 := laws.go:63 binOp
      refine WL.v (by first | exact r_eql rfl rfl (decide_eq_true (by omega)) | exact r_eql rfl rfl (decide_eq_false (by omega)) | exact r_eql rfl rfl rfl) rfl rfl rfl ?_
      -- R15.1 43 := laws.go:63 assign
      refine WL.v (by first | exact r_assign (v := .bool _) rfl | exact r_assign rfl) rfl rfl rfl ?_
      refine WL.fin hK767 (fun _ _ h => h) ?_
      refine WC.condF rfl rfl ?_
      refine WC.seq fun K768 hK768 => ?_
      -- region 17
      refine WC.region ?_
      -- R17.0 47 := laws.go:65 binOp
      refine WL.v (by first | exact r_eql rfl rfl (decide_eq_true (by omega)) | exact r_eql rfl rfl (decide_eq_false (by omega)) | exact r_eql rfl rfl rfl) rfl rfl rfl ?_
      -- R17.1 46 := laws.go:65 assign
      refine WL.v (by first | exact r_assign (v := .bool _) rfl | exact r_assign rfl) rfl rfl rfl ?_
      refine WL.fin hK768 (fun _ _ h => h) ?_
      refine WC.condT rfl rfl ?_
      refine WC.seq fun K769 hK769 => ?_
      -- region 18
      refine WC.region ?_
      -- R18.0 48 := laws.go:66 fieldAddr
      refine WL.v (by exact r_field ty_fld33_4 rfl) rfl rfl rfl ?_
      -- R18.1 49 := laws.go:66 load
      refine WL.v (by exact r_load1 ty_one29 rfl (by first | assumption | exact st.c0 (by first | decide | omega) | exact st.c1 (by first | decide | omega) | exact st.c2 (by first | decide | omega) | exact st.c3 (by first | decide | omega) | exact st.c4 (by first | decide | omega) | exact st.c5 (by first | decide | omega) | exact st.c6 (by first | decide | omega) | exact st.c7 (by first | decide | omega) | exact st.c8 (by first | decide | omega))) rfl rfl rfl ?_
      -- R18.2 50 := laws.go:66 call
      refine WL.call (r_call ty_call26 rfl) rfl rfl rfl (secs_ok hok.dat.adr hok.dat.le hok.dat.cap (by omega) st) ?_
      rintro _ w ⟨XI, f, hown, hf, st⟩
      obtain ⟨oa, oc, ob, rfl, hoa, hord⟩ := hown.form
      have st := st_push [_, _, _, _, _] XI st
      -- R18.3 51 := laws.go:66 call
      refine WL.v (by exact r_len ty_usl54 rfl) rfl rfl rfl ?_
      -- R18.4 52 := laws.go:66 move
      refine WL.v (by first | exact r_move (v := .int _ _) rfl | exact r_move rfl) rfl rfl rfl ?_
      refine WL.fin hK769 (fun _ _ h => h) ?_
      refine WC.block ?_
      refine WC.loop (ι := Nat × (Int → Option Value)) (fun z => [(3, .pointer (some ⟨bs, 0, none⟩)), (4, .map (some bm)), (5, .bool cr), (6, .slice (some ⟨b22, 0, none⟩) 512 512), (8, .pointer (some ⟨b8, 0, none⟩)), (23, .slice (some ⟨sb, so, none⟩) n c), (24, .int .i64 (n : Nat)), (25, .int .i64 (i : Nat)), (50, .slice oa ((op i).dat.bs.length / 512) oc), (51, .int .i64 (((op i).dat.bs.length / 512 : Nat) : Int)), (52, .int .i64 (z.1 : Nat))])
        (fun z w' => z.1 ≤ (op i).dat.bs.length / 512 ∧ LI w0 (l1 ++ K) (wrS (op i).dat.bs sn 0 z.1 (seenP P)) z.2 cr ∧ S0 w0 (sI bs D'.bD :: (bm, MapV (keyGood Go.Proofs.Tryd.prog 2) (gOf z.2)) :: iI b22 512 (fun _ => 0) :: (b8, Row 33 9 (nth (opC (op i)))) :: DI D' 0 (XI ++ (l1 ++ K))) w') (fun z => (op i).dat.bs.length / 512 - z.1) (0, NL)
        ⟨Nat.zero_le _, hli, st.drop.front1.back3⟩ ?_ ?_
      · skip
        repeat (first | exact sub_nil _ | refine sub_cons rfl rfl ?_)
      rintro ⟨j, NJ⟩ w ⟨hj, hlj, st⟩ K2 hK2
      dsimp only at hj hlj st ⊢
      by_cases hjl : ¬ j < (op i).dat.bs.length / 512
      · skip
        refine WC.seq fun K770 hK770 => ?_
        -- region 19
        refine WC.region ?_
        -- R19.0 53 := laws.go:66 binOp
        refine WL.v (by first | exact r_lss rfl rfl (decide_eq_true (by omega)) | exact r_lss rfl rfl (decide_eq_false (by omega)) | exact r_lss rfl rfl rfl) rfl rfl rfl ?_
        refine WL.fin hK770 (fun _ _ h => h) ?_
        refine WC.seq fun K771 hK771 => ?_
        refine WC.condF rfl rfl ?_
        refine WC.exitF hK759 (fun _ _ h => h) ?_
        -- region 35
        refine WC.region ?_
        -- R35.0 103 := laws.go:53 binOp
        refine WL.v (by exact r_add (r := ((i + 1 : Nat) : Int)) rfl rfl ((wi64 (by omega) (by omega)).trans (by omega))) rfl rfl rfl ?_
        -- R35.1 25 := laws.go:53 move
        refine WL.v (by first | exact r_move (v := .int _ _) rfl | exact r_move rfl) rfl rfl rfl ?_
        have ej : j = (op i).dat.bs.length / 512 := by omega
        refine WL.next hK1 (fun _ _ h => h) (D', (stepP P (op i)).1, i + 1, bm, NJ, cr, l1 ++ K) ⟨h', by show i + 1 ≤ n; omega, by show (stepP P (op i)).1.wr ≤ 128 * (i + 1); omega, by show LI w0 _ (seenP (stepP P (op i)).1) _ _; rw [q4, ← ej]; exact hlj, st.drop3.sublist ((((di_sub (List.sublist_append_right _ _)).cons_cons _).cons_cons _).cons_cons _)⟩ (by show n - (i + 1) < n - i; omega) (by repeat (first | exact sub_nil _ | refine sub_cons rfl rfl ?_))
      have hjl : j < (op i).dat.bs.length / 512 := by omega
      obtain rfl := hoa (by omega)
      have hsee : Sees w0 (l1 ++ K) (.slice (some ⟨(op i).dat.b, (op i).dat.o + j * 512, none⟩) 512 ((op i).dat.c - j * 512)) (bytesOf 512 (cutB (op i).dat.bs j)) :=
        Sees.cells (cutB_range hok.dat.byt j) (by omega) (by omega) fun l w' _ st k hk => by rw [Nat.add_assoc]; exact sv_old hok.datr st (j * 512 + k) (by omega)
      refine WC.seq fun K772 hK772 => ?_
      -- region 19
      refine WC.region ?_
      -- R19.0 53 := laws.go:66 binOp
      refine WL.v (by first | exact r_lss rfl rfl (decide_eq_true (by omega)) | exact r_lss rfl rfl (decide_eq_false (by omega)) | exact r_lss rfl rfl rfl) rfl rfl rfl ?_
      refine WL.fin hK772 (fun _ _ h => h) ?_
      refine WC.seq fun K773 hK773 => ?_
      refine WC.condT rfl rfl ?_
      refine WC.skipF hK773 (fun _ _ h => h) ?_
      refine WC.seq fun K774 hK774 => ?_
      refine WC.block ?_
      refine WC.seq fun K775 hK775 => ?_
      -- region 20
      refine WC.region ?_
      -- R20.0 54 := laws.go:66 move
      refine WL.v (by first | exact r_move (v := .int _ _) rfl | exact r_move rfl) rfl rfl rfl ?_
      -- R20.1 55 := laws.go:66 indexAddr
      refine WL.v (by exact r_indexS (j := j) ty_sl54 rfl rfl rfl hjl) rfl rfl rfl ?_
      -- R20.2 56 := laws.go:66 load
      refine WL.v (v := .slice (some ⟨(op i).dat.b, (op i).dat.o + j * 512, none⟩) 512 ((op i).dat.c - j * 512)) (by exact r_load1 ty_one29 rfl (by rw [show 0 + j * 1 = j by omega, hord st (fun x hx => List.mem_cons_of_mem _ (List.mem_cons_of_mem _ (List.mem_cons_of_mem _ (List.mem_cons_of_mem _ (mem_in (List.mem_append_left _ hx)))))) j (by omega), hf j hjl])) rfl rfl rfl ?_
      -- R20.3 10 := laws.go:66 assign
      refine WL.v (by first | exact r_assign (v := .int _ _) rfl | exact r_assign rfl) rfl rfl rfl ?_
      -- R20.4 11 := laws.go:66 assign
      refine WL.v (by first | exact r_assign (v := .slice _ _ _) rfl | exact r_assign rfl) rfl rfl rfl ?_
      refine WL.fin hK775 (fun _ _ h => h) ?_
      -- region 21
      refine WC.region ?_
      -- R21.0 57 := laws.go:67 move
      refine WL.v (by first | exact r_move (v := .map _) rfl | exact r_move rfl) rfl rfl rfl ?_
      -- R21.1 58 := laws.go:67 fieldAddr
      refine WL.v (by exact r_field ty_fld33_1 rfl) rfl rfl rfl ?_
      -- R21.2 59 := laws.go:67 load
      refine WL.v (v := .int .i64 (sn : Nat)) (by exact r_load1 ty_one2 rfl ((st.c3 (by decide)).trans (show some (Value.int .i64 (op i).sct) = _ by rw [hsn]))) rfl rfl rfl ?_
      -- R21.3 60 := laws.go:67 move
      refine WL.v (by first | exact r_move (v := .int _ _) rfl | exact r_move rfl) rfl rfl rfl ?_
      -- R21.4 61 := laws.go:67 binOp
      refine WL.v (by exact r_add (r := ((sn + j : Nat) : Int)) rfl rfl ((wi64 (by omega) (by omega)).trans (by omega))) rfl rfl rfl ?_
      -- R21.5 62 := laws.go:67 move
      refine WL.v (by first | exact r_move (v := .slice _ _ _) rfl | exact r_move rfl) rfl rfl rfl ?_
      -- R21.6 None := laws.go:67 mapUpdate
      refine WL.mapSetI (s := ((sn + j : Nat) : Int)) (val := .slice (some ⟨(op i).dat.b, (op i).dat.o + j * 512, none⟩) 512 ((op i).dat.c - j * 512)) ty_kb2 st.front1 ty_mp45 rfl rfl rfl (good64 (by omega) (by omega)) rfl rfl ?_
      intro w st
      have st := st.back1
      refine WL.fin hK774 (fun _ _ h => h) ?_
      -- region 22
      refine WC.region ?_
      -- R22.0 63 := laws.go:66 binOp
      refine WL.v (by exact r_add (r := ((j + 1 : Nat) : Int)) rfl rfl ((wi64 (by omega) (by omega)).trans (by omega))) rfl rfl rfl ?_
      -- R22.1 52 := laws.go:66 move
      refine WL.v (by first | exact r_move (v := .int _ _) rfl | exact r_move rfl) rfl rfl rfl ?_
      refine WL.next hK2 (fun _ _ h => h) (j + 1, _) ⟨by show j + 1 ≤ _; omega, hlj.set hsee (fun t k hk => ?_), st⟩ (by show _ - (j + 1) < _ - j; omega) (by repeat (first | exact sub_nil _ | refine sub_cons rfl rfl ?_))
      show wrS (op i).dat.bs sn 0 (j + 1) (seenP P) t k = _
      rw [wrS_succ, Nat.zero_add, Nat.add_zero]
      unfold stP
      by_cases ht : t = sn + j
      · rw [if_pos ⟨ht, hk⟩, if_pos ht]
      · rw [if_neg (fun h => ht h.1), if_neg ht]
    have es : seenP (stepP P (op i)).1 = seenP P := by
      rcases hss with ⟨a, _⟩ | ⟨a, _⟩ | ⟨_, a⟩
      · omega
      · omega
      · exact a
    by_cases hk2 : (op i).kind = 2
    rotate_left
    · skip
      refine WC.seq fun K776 hK776 => ?_
      -- region 8
      refine WC.region ?_
      -- R8.0 26 := laws.go:53 binOp
      refine WL.v (by first | exact r_lss rfl rfl (decide_eq_true (by omega)) | exact r_lss rfl rfl (decide_eq_false (by omega)) | exact r_lss rfl rfl rfl) rfl rfl rfl ?_
      refine WL.fin hK776 (fun _ _ h => h) ?_
      refine WC.seq fun K777 hK777 => ?_
      refine WC.condT rfl rfl ?_
      refine WC.skipF hK777 (fun _ _ h => h) ?_
      refine WC.seq fun K778 hK778 => ?_
      refine WC.block ?_
      refine WC.seq fun K779 hK779 => ?_
      -- region 9
      refine WC.region ?_
      -- R9.0 27 := laws.go:53 indexAddr
      refine WL.v (by exact r_indexS (j := i) ty_sl22 rfl rfl rfl hlt) rfl rfl rfl ?_
      -- R9.1 28 := laws.go:53 load
      refine WL.v (v := (op i).v) (by exact r_loadL (vs := opC (op i)) ty_agg33 rfl ⟨hS.ld hlt st 0 (by decide), hS.ld hlt st 1 (by decide), hS.ld hlt st 2 (by decide), hS.ld hlt st 3 (by decide), hS.ld hlt st 4 (by decide), hS.ld hlt st 5 (by decide), hS.ld hlt st 6 (by decide), hS.ld hlt st 7 (by decide), hS.ld hlt st 8 (by decide), trivial⟩) rfl rfl rfl ?_
      -- R9.2 8 := laws.go:53 alloc
      refine WL.alloc (m := 9) st ty_zero33 rfl rfl rfl ?_
      intro b8 w st
      -- R9.3 None := laws.go:53 store
      first | refine WL.storeW (vs := [_, _, _, _, _, _, _, _, _]) st ty_agg33 rfl rfl rfl rfl rfl rfl ?_ | refine WL.storeL (vs := [_, _, _, _, _, _, _, _, _]) st ty_agg33 rfl rfl rfl rfl (by first | decide | omega) rfl rfl ?_ | refine WL.storeW (vs := [_, _, _, _, _, _, _, _, _]) st.front1 ty_agg33 rfl rfl rfl rfl rfl rfl ?_ | refine WL.storeL (vs := [_, _, _, _, _, _, _, _, _]) st.front1 ty_agg33 rfl rfl rfl rfl (by first | decide | omega) rfl rfl ?_ | refine WL.storeW (vs := [_, _, _, _, _, _, _, _, _]) st.front2 ty_agg33 rfl rfl rfl rfl rfl rfl ?_ | refine WL.storeL (vs := [_, _, _, _, _, _, _, _, _]) st.front2 ty_agg33 rfl rfl rfl rfl (by first | decide | omega) rfl rfl ?_ | refine WL.storeW (vs := [_, _, _, _, _, _, _, _, _]) st.front3 ty_agg33 rfl rfl rfl rfl rfl rfl ?_ | refine WL.storeL (vs := [_, _, _, _, _, _, _, _, _]) st.front3 ty_agg33 rfl rfl rfl rfl (by first | decide | omega) rfl rfl ?_ | refine WL.storeW (vs := [_, _, _, _, _, _, _, _, _]) st.front4 ty_agg33 rfl rfl rfl rfl rfl rfl ?_ | refine WL.storeL (vs := [_, _, _, _, _, _, _, _, _]) st.front4 ty_agg33 rfl rfl rfl rfl (by first | decide | omega) rfl rfl ?_ | refine WL.storeW (vs := [_, _, _, _, _, _, _, _, _]) st.front5 ty_agg33 rfl rfl rfl rfl rfl rfl ?_ | refine WL.storeL (vs := [_, _, _, _, _, _, _, _, _]) st.front5 ty_agg33 rfl rfl rfl rfl (by first | decide | omega) rfl rfl ?_ | refine WL.storeW (vs := [_, _, _, _, _, _, _, _, _]) st.front6 ty_agg33 rfl rfl rfl rfl rfl rfl ?_ | refine WL.storeL (vs := [_, _, _, _, _, _, _, _, _]) st.front6 ty_agg33 rfl rfl rfl rfl (by first | decide | omega) rfl rfl ?_ | refine WL.storeW (vs := [_, _, _, _, _, _, _, _, _]) st.front7 ty_agg33 rfl rfl rfl rfl rfl rfl ?_ | refine WL.storeL (vs := [_, _, _, _, _, _, _, _, _]) st.front7 ty_agg33 rfl rfl rfl rfl (by first | decide | omega) rfl rfl ?_ | refine WL.storeW (vs := [_, _, _, _, _, _, _, _, _]) st.front8 ty_agg33 rfl rfl rfl rfl rfl rfl ?_ | refine WL.storeL (vs := [_, _, _, _, _, _, _, _, _]) st.front8 ty_agg33 rfl rfl rfl rfl (by first | decide | omega) rfl rfl ?_
      intro w st
      refine WL.fin hK779 (fun _ _ h => h) ?_
      refine WC.seq fun K780 hK780 => ?_
      -- region 10
      refine WC.region ?_
      -- R10.0 29 := laws.go:54 move
      refine WL.v (by first | exact r_move (v := .pointer _) rfl | exact r_move rfl) rfl rfl rfl ?_
      -- R10.1 30 := laws.go:54 load
      refine WL.v (by exact r_loadL (vs := [_, _, _, _, _, _, _, _, _]) ty_agg33 rfl ⟨(by first | assumption | exact st.c0 (by first | decide | omega) | exact st.c1 (by first | decide | omega) | exact st.c2 (by first | decide | omega) | exact st.c3 (by first | decide | omega) | exact st.c4 (by first | decide | omega) | exact st.c5 (by first | decide | omega) | exact st.c6 (by first | decide | omega) | exact st.c7 (by first | decide | omega) | exact st.c8 (by first | decide | omega)), (by first | assumption | exact st.c0 (by first | decide | omega) | exact st.c1 (by first | decide | omega) | exact st.c2 (by first | decide | omega) | exact st.c3 (by first | decide | omega) | exact st.c4 (by first | decide | omega) | exact st.c5 (by first | decide | omega) | exact st.c6 (by first | decide | omega) | exact st.c7 (by first | decide | omega) | exact st.c8 (by first | decide | omega)), (by first | assumption | exact st.c0 (by first | decide | omega) | exact st.c1 (by first | decide | omega) | exact st.c2 (by first | decide | omega) | exact st.c3 (by first | decide | omega) | exact st.c4 (by first | decide | omega) | exact st.c5 (by first | decide | omega) | exact st.c6 (by first | decide | omega) | exact st.c7 (by first | decide | omega) | exact st.c8 (by first | decide | omega)), (by first | assumption | exact st.c0 (by first | decide | omega) | exact st.c1 (by first | decide | omega) | exact st.c2 (by first | decide | omega) | exact st.c3 (by first | decide | omega) | exact st.c4 (by first | decide | omega) | exact st.c5 (by first | decide | omega) | exact st.c6 (by first | decide | omega) | exact st.c7 (by first | decide | omega) | exact st.c8 (by first | decide | omega)), (by first | assumption | exact st.c0 (by first | decide | omega) | exact st.c1 (by first | decide | omega) | exact st.c2 (by first | decide | omega) | exact st.c3 (by first | decide | omega) | exact st.c4 (by first | decide | omega) | exact st.c5 (by first | decide | omega) | exact st.c6 (by first | decide | omega) | exact st.c7 (by first | decide | omega) | exact st.c8 (by first | decide | omega)), (by first | assumption | exact st.c0 (by first | decide | omega) | exact st.c1 (by first | decide | omega) | exact st.c2 (by first | decide | omega) | exact st.c3 (by first | decide | omega) | exact st.c4 (by first | decide | omega) | exact st.c5 (by first | decide | omega) | exact st.c6 (by first | decide | omega) | exact st.c7 (by first | decide | omega) | exact st.c8 (by first | decide | omega)), (by first | assumption | exact st.c0 (by first | decide | omega) | exact st.c1 (by first | decide | omega) | exact st.c2 (by first | decide | omega) | exact st.c3 (by first | decide | omega) | exact st.c4 (by first | decide | omega) | exact st.c5 (by first | decide | omega) | exact st.c6 (by first | decide | omega) | exact st.c7 (by first | decide | omega) | exact st.c8 (by first | decide | omega)), (by first | assumption | exact st.c0 (by first | decide | omega) | exact st.c1 (by first | decide | omega) | exact st.c2 (by first | decide | omega) | exact st.c3 (by first | decide | omega) | exact st.c4 (by first | decide | omega) | exact st.c5 (by first | decide | omega) | exact st.c6 (by first | decide | omega) | exact st.c7 (by first | decide | omega) | exact st.c8 (by first | decide | omega)), (by first | assumption | exact st.c0 (by first | decide | omega) | exact st.c1 (by first | decide | omega) | exact st.c2 (by first | decide | omega) | exact st.c3 (by first | decide | omega) | exact st.c4 (by first | decide | omega) | exact st.c5 (by first | decide | omega) | exact st.c6 (by first | decide | omega) | exact st.c7 (by first | decide | omega) | exact st.c8 (by first | decide | omega)), trivial⟩) rfl rfl rfl ?_
      -- R10.2 31 := laws.go:54 call
      refine WL.call (r_call ty_call14 rfl) rfl rfl rfl (step_ok (o := op i) hg h hok (by omega) (st_inF [_, _, _, _] st.front1)) ?_
      rintro _ w ⟨D', dv, l1, h', rfl, hrv, st⟩
      obtain ⟨da, dn, dc, rfl⟩ := rv_sl hrv
      have st := st_l1 st
      have hli := hli.more (K' := l1 ++ K) (fun x hx => List.mem_append_right _ hx)
      -- R10.3 9 := laws.go:54 alloc
      refine WL.alloc (m := 2) st ty_zero37 rfl rfl rfl ?_
      intro b9 w st
      -- R10.4 None := laws.go:54 store
      first | refine WL.storeW (vs := [_, _]) st ty_agg37 rfl rfl rfl rfl rfl rfl ?_ | refine WL.storeL (vs := [_, _]) st ty_agg37 rfl rfl rfl rfl (by first | decide | omega) rfl rfl ?_ | refine WL.storeW (vs := [_, _]) st.front1 ty_agg37 rfl rfl rfl rfl rfl rfl ?_ | refine WL.storeL (vs := [_, _]) st.front1 ty_agg37 rfl rfl rfl rfl (by first | decide | omega) rfl rfl ?_ | refine WL.storeW (vs := [_, _]) st.front2 ty_agg37 rfl rfl rfl rfl rfl rfl ?_ | refine WL.storeL (vs := [_, _]) st.front2 ty_agg37 rfl rfl rfl rfl (by first | decide | omega) rfl rfl ?_ | refine WL.storeW (vs := [_, _]) st.front3 ty_agg37 rfl rfl rfl rfl rfl rfl ?_ | refine WL.storeL (vs := [_, _]) st.front3 ty_agg37 rfl rfl rfl rfl (by first | decide | omega) rfl rfl ?_ | refine WL.storeW (vs := [_, _]) st.front4 ty_agg37 rfl rfl rfl rfl rfl rfl ?_ | refine WL.storeL (vs := [_, _]) st.front4 ty_agg37 rfl rfl rfl rfl (by first | decide | omega) rfl rfl ?_ | refine WL.storeW (vs := [_, _]) st.front5 ty_agg37 rfl rfl rfl rfl rfl rfl ?_ | refine WL.storeL (vs := [_, _]) st.front5 ty_agg37 rfl rfl rfl rfl (by first | decide | omega) rfl rfl ?_ | refine WL.storeW (vs := [_, _]) st.front6 ty_agg37 rfl rfl rfl rfl rfl rfl ?_ | refine WL.storeL (vs := [_, _]) st.front6 ty_agg37 rfl rfl rfl rfl (by first | decide | omega) rfl rfl ?_ | refine WL.storeW (vs := [_, _]) st.front7 ty_agg37 rfl rfl rfl rfl rfl rfl ?_ | refine WL.storeL (vs := [_, _]) st.front7 ty_agg37 rfl rfl rfl rfl (by first | decide | omega) rfl rfl ?_ | refine WL.storeW (vs := [_, _]) st.front8 ty_agg37 rfl rfl rfl rfl rfl rfl ?_ | refine WL.storeL (vs := [_, _]) st.front8 ty_agg37 rfl rfl rfl rfl (by first | decide | omega) rfl rfl ?_
      intro w st
      refine WL.fin hK780 (fun _ _ h => h) ?_
      refine WC.seq fun K781 hK781 => ?_
      refine WC.seq fun K782 hK782 => ?_
      -- region 11
      refine WC.region ?_
      -- R11.0 32 := laws.go:55 move
      refine WL.v (by first | exact r_move (v := .pointer _) rfl | exact r_move rfl) rfl rfl rfl ?_
      -- R11.1 33 := laws.go:55 nilCheck
      refine WL.v (by exact r_nilCheck rfl) rfl rfl rfl ?_
      -- R11.2 34 := laws.go:55 fieldAddr
      refine WL.v (by exact r_field ty_fld42_0 rfl) rfl rfl rfl ?_
      -- R11.3 35 := laws.go:55 load
      refine WL.v (by exact r_load1 ty_one40 rfl (by first | assumption | exact st.c0 (by first | decide | omega) | exact st.c1 (by first | decide | omega) | exact st.c2 (by first | decide | omega) | exact st.c3 (by first | decide | omega) | exact st.c4 (by first | decide | omega) | exact st.c5 (by first | decide | omega) | exact st.c6 (by first | decide | omega) | exact st.c7 (by first | decide | omega) | exact st.c8 (by first | decide | omega))) rfl rfl rfl ?_
      -- R11.4 36 := laws.go:55 call
      refine WL.call (r_call ty_call17 rfl) rfl rfl rfl (isDown_ok (st_inF [_, _, _, _, _] st)) ?_
      rintro _ w ⟨rfl, st⟩
      have st := st_outF [_, _, _, _, _] st
      rw [h'.down, hdn]
      refine WL.fin hK782 (fun _ _ h => h) ?_
      refine WC.condF rfl rfl ?_
      refine WC.skipF hK781 (fun _ _ h => h) ?_
      refine WC.seq fun K783 hK783 => ?_
      refine WC.seq fun K784 hK784 => ?_
      -- region 13
      refine WC.region ?_
      -- R13.0 38 := laws.go:59 fieldAddr
      refine WL.v (by exact r_field ty_fld37_0 rfl) rfl rfl rfl ?_
      -- R13.1 39 := laws.go:59 load
      refine WL.v (by exact r_load1 ty_one35 rfl (by first | assumption | exact st.c0 (by first | decide | omega) | exact st.c1 (by first | decide | omega) | exact st.c2 (by first | decide | omega) | exact st.c3 (by first | decide | omega) | exact st.c4 (by first | decide | omega) | exact st.c5 (by first | decide | omega) | exact st.c6 (by first | decide | omega) | exact st.c7 (by first | decide | omega) | exact st.c8 (by first | decide | omega))) rfl rfl rfl ?_
      -- R13.2 40 := laws.go:59 binOp
      refine WL.v (by first | exact r_neq rfl rfl (decide_eq_true (by omega)) | exact r_neq rfl rfl (decide_eq_false (by omega)) | exact r_neq rfl rfl rfl) rfl rfl rfl ?_
      refine WL.fin hK784 (fun _ _ h => h) ?_
      refine WC.condF rfl rfl ?_
      refine WC.skipF hK783 (fun _ _ h => h) ?_
      refine WC.seq fun K785 hK785 => ?_
      -- region 14
      refine WC.region ?_
      -- R14.0 41 := laws.go:62 fieldAddr
      refine WL.v (by exact r_field ty_fld33_0 rfl) rfl rfl rfl ?_
      -- R14.1 42 := laws.go:62 load
      refine WL.v (by exact r_load1 ty_one28 rfl (by first | assumption | exact st.c0 (by first | decide | omega) | exact st.c1 (by first | decide | omega) | exact st.c2 (by first | decide | omega) | exact st.c3 (by first | decide | omega) | exact st.c4 (by first | decide | omega) | exact st.c5 (by first | decide | omega) | exact st.c6 (by first | decide | omega) | exact st.c7 (by first | decide | omega) | exact st.c8 (by first | decide | omega))) rfl rfl rfl ?_
      refine WL.fin hK785 (fun _ _ h => h) ?_
      refine WC.block ?_
      refine WC.seq fun K786 hK786 => ?_
      -- region 15
      refine WC.region ?_
      -- R15.0 44 := laws.go:63 binOp
      refine WL.v (by first | exact r_eql rfl rfl (decide_eq_true (by omega)) | exact r_eql rfl rfl (decide_eq_false (by omega)) | exact r_eql rfl rfl rfl) rfl rfl rfl ?_
      -- R15.1 43 := laws.go:63 assign
      refine WL.v (by first | exact r_assign (v := .bool _) rfl | exact r_assign rfl) rfl rfl rfl ?_
      refine WL.fin hK786 (fun _ _ h => h) ?_
      refine WC.condF rfl rfl ?_
      refine WC.seq fun K787 hK787 => ?_
      -- region 17
      refine WC.region ?_
      -- R17.0 47 := laws.go:65 binOp
      refine WL.v (by first | exact r_eql rfl rfl (decide_eq_true (by omega)) | exact r_eql rfl rfl (decide_eq_false (by omega)) | exact r_eql rfl rfl rfl) rfl rfl rfl ?_
      -- R17.1 46 := laws.go:65 assign
      refine WL.v (by first | exact r_assign (v := .bool _) rfl | exact r_assign rfl) rfl rfl rfl ?_
      refine WL.fin hK787 (fun _ _ h => h) ?_
      refine WC.condF rfl rfl ?_
      refine WC.seq fun K788 hK788 => ?_
      -- region 23
      refine WC.region ?_
      -- R23.0 65 := laws.go:69 binOp
      refine WL.v (by first | exact r_eql rfl rfl (decide_eq_true (by omega)) | exact r_eql rfl rfl (decide_eq_false (by omega)) | exact r_eql rfl rfl rfl) rfl rfl rfl ?_
      -- R23.1 64 := laws.go:69 assign
      refine WL.v (by first | exact r_assign (v := .bool _) rfl | exact r_assign rfl) rfl rfl rfl ?_
      refine WL.fin hK788 (fun _ _ h => h) ?_
      refine WC.condF rfl rfl ?_
      refine WC.skipF hK778 (fun _ _ h => h) ?_
      -- region 35
      refine WC.region ?_
      -- R35.0 103 := laws.go:53 binOp
      refine WL.v (by exact r_add (r := ((i + 1 : Nat) : Int)) rfl rfl ((wi64 (by omega) (by omega)).trans (by omega))) rfl rfl rfl ?_
      -- R35.1 25 := laws.go:53 move
      refine WL.v (by first | exact r_move (v := .int _ _) rfl | exact r_move rfl) rfl rfl rfl ?_
      refine WL.next hK1 (fun _ _ h => h) (D', (stepP P (op i)).1, i + 1, bm, NL, cr, l1 ++ K) ⟨h', by show i + 1 ≤ n; omega, by show (stepP P (op i)).1.wr ≤ 128 * (i + 1); omega, by show LI w0 _ (seenP (stepP P (op i)).1) _ _; rw [es]; exact hli, st.drop.drop1⟩ (by show n - (i + 1) < n - i; omega) (by repeat (first | exact sub_nil _ | refine sub_cons rfl rfl ?_))
    obtain ⟨n', hn'⟩ : ∃ n', n' = bufC P.sec (op i).cnt * 512 := ⟨_, rfl⟩
    have est : stepP P (op i) = (P, readC P (op i).sct n') := by unfold stepP; rw [hn']; simp [hk2]
    have erd : rdP P (op i) = some (n', fun j => seenP P ((op i).sct.toNat + j / 512) (j % 512)) := by unfold rdP; rw [if_pos ⟨hk2, hc⟩, hn']
    have hbl := bufC_le P.sec (op i).cnt
    rw [est] at hc hdn
    have hc : readC P (op i).sct n' = 0 := hc
    have hdn0 : P.down = false := hdn
    obtain ⟨q1, q2, q3⟩ : 0 ≤ (op i).sct ∧ (op i).sct ≤ 65536 ∧ n' / 512 ≤ 65536 := by
      unfold readC at hc
      rw [hdn0, if_neg (by decide)] at hc
      unfold spanC at hc
      split at hc
      · cases hc
      · split at hc
        · cases hc
        · omega
    obtain ⟨sn, hsn⟩ := Int.eq_ofNat_of_zero_le q1
    have hsn : (op i).sct = (sn : Int) := hsn
    rw [hsn] at q2 erd
    have erd : rdP P (op i) = some (n', fun j => seenP P (sn + j / 512) (j % 512)) := erd
    have hsr := h.seenr
    refine WC.seq fun K789 hK789 => ?_
    -- region 8
    refine WC.region ?_
    -- R8.0 26 := laws.go:53 binOp
    refine WL.v (by first | exact r_lss rfl rfl (decide_eq_true (by omega)) | exact r_lss rfl rfl (decide_eq_false (by omega)) | exact r_lss rfl rfl rfl) rfl rfl rfl ?_
    refine WL.fin hK789 (fun _ _ h => h) ?_
    refine WC.seq fun K790 hK790 => ?_
    refine WC.condT rfl rfl ?_
    refine WC.skipF hK790 (fun _ _ h => h) ?_
    refine WC.seq fun K791 hK791 => ?_
    refine WC.block ?_
    refine WC.seq fun K792 hK792 => ?_
    -- region 9
    refine WC.region ?_
    -- R9.0 27 := laws.go:53 indexAddr
    refine WL.v (by exact r_indexS (j := i) ty_sl22 rfl rfl rfl hlt) rfl rfl rfl ?_
    -- R9.1 28 := laws.go:53 load
    refine WL.v (v := (op i).v) (by exact r_loadL (vs := opC (op i)) ty_agg33 rfl ⟨hS.ld hlt st 0 (by decide), hS.ld hlt st 1 (by decide), hS.ld hlt st 2 (by decide), hS.ld hlt st 3 (by decide), hS.ld hlt st 4 (by decide), hS.ld hlt st 5 (by decide), hS.ld hlt st 6 (by decide), hS.ld hlt st 7 (by decide), hS.ld hlt st 8 (by decide), trivial⟩) rfl rfl rfl ?_
    -- R9.2 8 := laws.go:53 alloc
    refine WL.alloc (m := 9) st ty_zero33 rfl rfl rfl ?_
    intro b8 w st
    -- R9.3 None := laws.go:53 store
    first | refine WL.storeW (vs := [_, _, _, _, _, _, _, _, _]) st ty_agg33 rfl rfl rfl rfl rfl rfl ?_ | refine WL.storeL (vs := [_, _, _, _, _, _, _, _, _]) st ty_agg33 rfl rfl rfl rfl (by first | decide | omega) rfl rfl ?_ | refine WL.storeW (vs := [_, _, _, _, _, _, _, _, _]) st.front1 ty_agg33 rfl rfl rfl rfl rfl rfl ?_ | refine WL.storeL (vs := [_, _, _, _, _, _, _, _, _]) st.front1 ty_agg33 rfl rfl rfl rfl (by first | decide | omega) rfl rfl ?_ | refine WL.storeW (vs := [_, _, _, _, _, _, _, _, _]) st.front2 ty_agg33 rfl rfl rfl rfl rfl rfl ?_ | refine WL.storeL (vs := [_, _, _, _, _, _, _, _, _]) st.front2 ty_agg33 rfl rfl rfl rfl (by first | decide | omega) rfl rfl ?_ | refine WL.storeW (vs := [_, _, _, _, _, _, _, _, _]) st.front3 ty_agg33 rfl rfl rfl rfl rfl rfl ?_ | refine WL.storeL (vs := [_, _, _, _, _, _, _, _, _]) st.front3 ty_agg33 rfl rfl rfl rfl (by first | decide | omega) rfl rfl ?_ | refine WL.storeW (vs := [_, _, _, _, _, _, _, _, _]) st.front4 ty_agg33 rfl rfl rfl rfl rfl rfl ?_ | refine WL.storeL (vs := [_, _, _, _, _, _, _, _, _]) st.front4 ty_agg33 rfl rfl rfl rfl (by first | decide | omega) rfl rfl ?_ | refine WL.storeW (vs := [_, _, _, _, _, _, _, _, _]) st.front5 ty_agg33 rfl rfl rfl rfl rfl rfl ?_ | refine WL.storeL (vs := [_, _, _, _, _, _, _, _, _]) st.front5 ty_agg33 rfl rfl rfl rfl (by first | decide | omega) rfl rfl ?_ | refine WL.storeW (vs := [_, _, _, _, _, _, _, _, _]) st.front6 ty_agg33 rfl rfl rfl rfl rfl rfl ?_ | refine WL.storeL (vs := [_, _, _, _, _, _, _, _, _]) st.front6 ty_agg33 rfl rfl rfl rfl (by first | decide | omega) rfl rfl ?_ | refine WL.storeW (vs := [_, _, _, _, _, _, _, _, _]) st.front7 ty_agg33 rfl rfl rfl rfl rfl rfl ?_ | refine WL.storeL (vs := [_, _, _, _, _, _, _, _, _]) st.front7 ty_agg33 rfl rfl rfl rfl (by first | decide | omega) rfl rfl ?_ | refine WL.storeW (vs := [_, _, _, _, _, _, _, _, _]) st.front8 ty_agg33 rfl rfl rfl rfl rfl rfl ?_ | refine WL.storeL (vs := [_, _, _, _, _, _, _, _, _]) st.front8 ty_agg33 rfl rfl rfl rfl (by first | decide | omega) rfl rfl ?_
    intro w st
    refine WL.fin hK792 (fun _ _ h => h) ?_
    refine WC.seq fun K793 hK793 => ?_
    -- region 10
    refine WC.region ?_
    -- R10.0 29 := laws.go:54 move
    refine WL.v (by first | exact r_move (v := .pointer _) rfl | exact r_move rfl) rfl rfl rfl ?_
    -- R10.1 30 := laws.go:54 load
    refine WL.v (by exact r_loadL (vs := [_, _, _, _, _, _, _, _, _]) ty_agg33 rfl ⟨(by first | assumption | exact st.c0 (by first | decide | omega) | exact st.c1 (by first | decide | omega) | exact st.c2 (by first | decide | omega) | exact st.c3 (by first | decide | omega) | exact st.c4 (by first | decide | omega) | exact st.c5 (by first | decide | omega) | exact st.c6 (by first | decide | omega) | exact st.c7 (by first | decide | omega) | exact st.c8 (by first | decide | omega)), (by first | assumption | exact st.c0 (by first | decide | omega) | exact st.c1 (by first | decide | omega) | exact st.c2 (by first | decide | omega) | exact st.c3 (by first | decide | omega) | exact st.c4 (by first | decide | omega) | exact st.c5 (by first | decide | omega) | exact st.c6 (by first | decide | omega) | exact st.c7 (by first | decide | omega) | exact st.c8 (by first | decide | omega)), (by first | assumption | exact st.c0 (by first | decide | omega) | exact st.c1 (by first | decide | omega) | exact st.c2 (by first | decide | omega) | exact st.c3 (by first | decide | omega) | exact st.c4 (by first | decide | omega) | exact st.c5 (by first | decide | omega) | exact st.c6 (by first | decide | omega) | exact st.c7 (by first | decide | omega) | exact st.c8 (by first | decide | omega)), (by first | assumption | exact st.c0 (by first | decide | omega) | exact st.c1 (by first | decide | omega) | exact st.c2 (by first | decide | omega) | exact st.c3 (by first | decide | omega) | exact st.c4 (by first | decide | omega) | exact st.c5 (by first | decide | omega) | exact st.c6 (by first | decide | omega) | exact st.c7 (by first | decide | omega) | exact st.c8 (by first | decide | omega)), (by first | assumption | exact st.c0 (by first | decide | omega) | exact st.c1 (by first | decide | omega) | exact st.c2 (by first | decide | omega) | exact st.c3 (by first | decide | omega) | exact st.c4 (by first | decide | omega) | exact st.c5 (by first | decide | omega) | exact st.c6 (by first | decide | omega) | exact st.c7 (by first | decide | omega) | exact st.c8 (by first | decide | omega)), (by first | assumption | exact st.c0 (by first | decide | omega) | exact st.c1 (by first | decide | omega) | exact st.c2 (by first | decide | omega) | exact st.c3 (by first | decide | omega) | exact st.c4 (by first | decide | omega) | exact st.c5 (by first | decide | omega) | exact st.c6 (by first | decide | omega) | exact st.c7 (by first | decide | omega) | exact st.c8 (by first | decide | omega)), (by first | assumption | exact st.c0 (by first | decide | omega) | exact st.c1 (by first | decide | omega) | exact st.c2 (by first | decide | omega) | exact st.c3 (by first | decide | omega) | exact st.c4 (by first | decide | omega) | exact st.c5 (by first | decide | omega) | exact st.c6 (by first | decide | omega) | exact st.c7 (by first | decide | omega) | exact st.c8 (by first | decide | omega)), (by first | assumption | exact st.c0 (by first | decide | omega) | exact st.c1 (by first | decide | omega) | exact st.c2 (by first | decide | omega) | exact st.c3 (by first | decide | omega) | exact st.c4 (by first | decide | omega) | exact st.c5 (by first | decide | omega) | exact st.c6 (by first | decide | omega) | exact st.c7 (by first | decide | omega) | exact st.c8 (by first | decide | omega)), (by first | assumption | exact st.c0 (by first | decide | omega) | exact st.c1 (by first | decide | omega) | exact st.c2 (by first | decide | omega) | exact st.c3 (by first | decide | omega) | exact st.c4 (by first | decide | omega) | exact st.c5 (by first | decide | omega) | exact st.c6 (by first | decide | omega) | exact st.c7 (by first | decide | omega) | exact st.c8 (by first | decide | omega)), trivial⟩) rfl rfl rfl ?_
    -- R10.2 31 := laws.go:54 call
    refine WL.call (r_call ty_call14 rfl) rfl rfl rfl (step_ok (o := op i) hg h hok (by omega) (st_inF [_, _, _, _] st.front1)) ?_
    rintro _ w ⟨D', dv, l1, h', rfl, hrv, st⟩
    rw [erd] at hrv
    obtain ⟨bb, g', rfl, rfl, hg'⟩ := hrv
    have st := st_l1 st
    rw [row_eq (b := 0) hg'] at st
    rw [est] at h' ⊢
    dsimp only at h' ⊢
    rw [hc]
    have hli := hli.more (K' := [iI bb n' fun j => seenP P (sn + j / 512) (j % 512)] ++ K) (fun x hx => List.mem_append_right _ hx)
    -- R10.3 9 := laws.go:54 alloc
    refine WL.alloc (m := 2) st ty_zero37 rfl rfl rfl ?_
    intro b9 w st
    -- R10.4 None := laws.go:54 store
    first | refine WL.storeW (vs := [_, _]) st ty_agg37 rfl rfl rfl rfl rfl rfl ?_ | refine WL.storeL (vs := [_, _]) st ty_agg37 rfl rfl rfl rfl (by first | decide | omega) rfl rfl ?_ | refine WL.storeW (vs := [_, _]) st.front1 ty_agg37 rfl rfl rfl rfl rfl rfl ?_ | refine WL.storeL (vs := [_, _]) st.front1 ty_agg37 rfl rfl rfl rfl (by first | decide | omega) rfl rfl ?_ | refine WL.storeW (vs := [_, _]) st.front2 ty_agg37 rfl rfl rfl rfl rfl rfl ?_ | refine WL.storeL (vs := [_, _]) st.front2 ty_agg37 rfl rfl rfl rfl (by first | decide | omega) rfl rfl ?_ | refine WL.storeW (vs := [_, _]) st.front3 ty_agg37 rfl rfl rfl rfl rfl rfl ?_ | refine WL.storeL (vs := [_, _]) st.front3 ty_agg37 rfl rfl rfl rfl (by first | decide | omega) rfl rfl ?_ | refine WL.storeW (vs := [_, _]) st.front4 ty_agg37 rfl rfl rfl rfl rfl rfl ?_ | refine WL.storeL (vs := [_, _]) st.front4 ty_agg37 rfl rfl rfl rfl (by first | decide | omega) rfl rfl ?_ | refine WL.storeW (vs := [_, _]) st.front5 ty_agg37 rfl rfl rfl rfl rfl rfl ?_ | refine WL.storeL (vs := [_, _]) st.front5 ty_agg37 rfl rfl rfl rfl (by first | decide | omega) rfl rfl ?_ | refine WL.storeW (vs := [_, _]) st.front6 ty_agg37 rfl rfl rfl rfl rfl rfl ?_ | refine WL.storeL (vs := [_, _]) st.front6 ty_agg37 rfl rfl rfl rfl (by first | decide | omega) rfl rfl ?_ | refine WL.storeW (vs := [_, _]) st.front7 ty_agg37 rfl rfl rfl rfl rfl rfl ?_ | refine WL.storeL (vs := [_, _]) st.front7 ty_agg37 rfl rfl rfl rfl (by first | decide | omega) rfl rfl ?_ | refine WL.storeW (vs := [_, _]) st.front8 ty_agg37 rfl rfl rfl rfl rfl rfl ?_ | refine WL.storeL (vs := [_, _]) st.front8 ty_agg37 rfl rfl rfl rfl (by first | decide | omega) rfl rfl ?_
    intro w st
    refine WL.fin hK793 (fun _ _ h => h) ?_
    refine WC.seq fun K794 hK794 => ?_
    refine WC.seq fun K795 hK795 => ?_
    -- region 11
    refine WC.region ?_
    -- R11.0 32 := laws.go:55 move
    refine WL.v (by first | exact r_move (v := .pointer _) rfl | exact r_move rfl) rfl rfl rfl ?_
    -- R11.1 33 := laws.go:55 nilCheck
    refine WL.v (by exact r_nilCheck rfl) rfl rfl rfl ?_
    -- R11.2 34 := laws.go:55 fieldAddr
    refine WL.v (by exact r_field ty_fld42_0 rfl) rfl rfl rfl ?_
    -- R11.3 35 := laws.go:55 load
    refine WL.v (by exact r_load1 ty_one40 rfl (by first | assumption | exact st.c0 (by first | decide | omega) | exact st.c1 (by first | decide | omega) | exact st.c2 (by first | decide | omega) | exact st.c3 (by first | decide | omega) | exact st.c4 (by first | decide | omega) | exact st.c5 (by first | decide | omega) | exact st.c6 (by first | decide | omega) | exact st.c7 (by first | decide | omega) | exact st.c8 (by first | decide | omega))) rfl rfl rfl ?_
    -- R11.4 36 := laws.go:55 call
    refine WL.call (r_call ty_call17 rfl) rfl rfl rfl (isDown_ok (st_inF [_, _, _, _, _] st)) ?_
    rintro _ w ⟨rfl, st⟩
    have st := st_outF [_, _, _, _, _] st
    rw [h'.down, hdn0]
    refine WL.fin hK795 (fun _ _ h => h) ?_
    refine WC.condF rfl rfl ?_
    refine WC.skipF hK794 (fun _ _ h => h) ?_
    refine WC.seq fun K796 hK796 => ?_
    refine WC.seq fun K797 hK797 => ?_
    -- region 13
    refine WC.region ?_
    -- R13.0 38 := laws.go:59 fieldAddr
    refine WL.v (by exact r_field ty_fld37_0 rfl) rfl rfl rfl ?_
    -- R13.1 39 := laws.go:59 load
    refine WL.v (by exact r_load1 ty_one35 rfl (by first | assumption | exact st.c0 (by first | decide | omega) | exact st.c1 (by first | decide | omega) | exact st.c2 (by first | decide | omega) | exact st.c3 (by first | decide | omega) | exact st.c4 (by first | decide | omega) | exact st.c5 (by first | decide | omega) | exact st.c6 (by first | decide | omega) | exact st.c7 (by first | decide | omega) | exact st.c8 (by first | decide | omega))) rfl rfl rfl ?_
    -- R13.2 40 := laws.go:59 binOp
    refine WL.v (by first | exact r_neq rfl rfl (decide_eq_true (by omega)) | exact r_neq rfl rfl (decide_eq_false (by omega)) | exact r_neq rfl rfl rfl) rfl rfl rfl ?_
    refine WL.fin hK797 (fun _ _ h => h) ?_
    refine WC.condF rfl rfl ?_
    refine WC.skipF hK796 (fun _ _ h => h) ?_
    refine WC.seq fun K798 hK798 => ?_
    -- region 14
    refine WC.region ?_
    -- R14.0 41 := laws.go:62 fieldAddr
    refine WL.v (by exact r_field ty_fld33_0 rfl) rfl rfl rfl ?_
    -- R14.1 42 := laws.go:62 load
    refine WL.v (by exact r_load1 ty_one28 rfl (by first | assumption | exact st.c0 (by first | decide | omega) | exact st.c1 (by first | decide | omega) | exact st.c2 (by first | decide | omega) | exact st.c3 (by first | decide | omega) | exact st.c4 (by first | decide | omega) | exact st.c5 (by first | decide | omega) | exact st.c6 (by first | decide | omega) | exact st.c7 (by first | decide | omega) | exact st.c8 (by first | decide | omega))) rfl rfl rfl ?_
    refine WL.fin hK798 (fun _ _ h => h) ?_
    refine WC.block ?_
    refine WC.seq fun K799 hK799 => ?_
    -- region 15
    refine WC.region ?_
    -- R15.0 44 := laws.go:63 binOp
    refine WL.v (by first | exact r_eql rfl rfl (decide_eq_true (by omega)) | exact r_eql rfl rfl (decide_eq_false (by omega)) | exact r_eql rfl rfl rfl) rfl rfl rfl ?_
    -- R15.1 43 := laws.go:63 assign
    refine WL.v (by first | exact r_assign (v := .bool _) rfl | exact r_assign rfl) rfl rfl rfl ?_
    refine WL.fin hK799 (fun _ _ h => h) ?_
    refine WC.condF rfl rfl ?_
    refine WC.seq fun K800 hK800 => ?_
    -- region 17
    refine WC.region ?_
    -- R17.0 47 := laws.go:65 binOp
    refine WL.v (by first | exact r_eql rfl rfl (decide_eq_true (by omega)) | exact r_eql rfl rfl (decide_eq_false (by omega)) | exact r_eql rfl rfl rfl) rfl rfl rfl ?_
    -- R17.1 46 := laws.go:65 assign
    refine WL.v (by first | exact r_assign (v := .bool _) rfl | exact r_assign rfl) rfl rfl rfl ?_
    refine WL.fin hK800 (fun _ _ h => h) ?_
    refine WC.condF rfl rfl ?_
    refine WC.seq fun K801 hK801 => ?_
    -- region 23
    refine WC.region ?_
    -- R23.0 65 := laws.go:69 binOp
    refine WL.v (by first | exact r_eql rfl rfl (decide_eq_true (by omega)) | exact r_eql rfl rfl (decide_eq_false (by omega)) | exact r_eql rfl rfl rfl) rfl rfl rfl ?_
    -- R23.1 64 := laws.go:69 assign
    refine WL.v (by first | exact r_assign (v := .bool _) rfl | exact r_assign rfl) rfl rfl rfl ?_
    refine WL.fin hK801 (fun _ _ h => h) ?_
    refine WC.condT rfl rfl ?_
    refine WC.seq fun K802 hK802 => ?_
    -- region 24
    refine WC.region ?_
    -- R24.0 66 := laws.go:70 fieldAddr
    refine WL.v (by exact r_field ty_fld37_1 rfl) rfl rfl rfl ?_
    -- R24.1 67 := laws.go:70 load
    refine WL.v (by exact r_load1 ty_one29 rfl (by first | assumption | exact st.c0 (by first | decide | omega) | exact st.c1 (by first | decide | omega) | exact st.c2 (by first | decide | omega) | exact st.c3 (by first | decide | omega) | exact st.c4 (by first | decide | omega) | exact st.c5 (by first | decide | omega) | exact st.c6 (by first | decide | omega) | exact st.c7 (by first | decide | omega) | exact st.c8 (by first | decide | omega))) rfl rfl rfl ?_
    -- R24.2 68 := laws.go:70 call
    refine WL.call (r_call ty_call26 rfl) rfl rfl rfl (secs_ok (b := bb) (o := 0) (fun _ => rfl) (Nat.le_refl n') (by omega) (by omega) st) ?_
    rintro _ w ⟨XI, f, hown, hf, st⟩
    obtain ⟨oa, oc, ob, rfl, hoa, hord⟩ := hown.form
    have st := st_push [_, _, _, _, _] XI st
    -- R24.3 69 := laws.go:70 call
    refine WL.v (by exact r_len ty_usl54 rfl) rfl rfl rfl ?_
    -- R24.4 70 := laws.go:70 move
    refine WL.v (by first | exact r_move (v := .int _ _) rfl | exact r_move rfl) rfl rfl rfl ?_
    refine WL.fin hK802 (fun _ _ h => h) ?_
    refine WC.block ?_
    refine WC.loop (ι := Nat × (Int → Option Value)) (fun z => [(3, .pointer (some ⟨bs, 0, none⟩)), (4, .map (some bm)), (5, .bool cr), (6, .slice (some ⟨b22, 0, none⟩) 512 512), (8, .pointer (some ⟨b8, 0, none⟩)), (23, .slice (some ⟨sb, so, none⟩) n c), (24, .int .i64 (n : Nat)), (25, .int .i64 (i : Nat)), (68, .slice oa (n' / 512) oc), (69, .int .i64 ((n' / 512 : Nat) : Int)), (70, .int .i64 (z.1 : Nat))])
      (fun z w' => z.1 ≤ n' / 512 ∧ LI w0 ([iI bb n' fun j => seenP P (sn + j / 512) (j % 512)] ++ K) (seenP P) z.2 cr ∧ S0 w0 (sI bs D'.bD :: (bm, MapV (keyGood Go.Proofs.Tryd.prog 2) (gOf z.2)) :: iI b22 512 (fun _ => 0) :: (b8, Row 33 9 (nth (opC (op i)))) :: DI D' 0 (XI ++ ([iI bb n' fun j => seenP P (sn + j / 512) (j % 512)] ++ K))) w') (fun z => n' / 512 - z.1) (0, NL)
      ⟨Nat.zero_le _, hli, st.drop.front1.back3⟩ ?_ ?_
    · skip
      repeat (first | exact sub_nil _ | refine sub_cons rfl rfl ?_)
    rintro ⟨j, NJ⟩ w ⟨hj, hlj, st⟩ K2 hK2
    dsimp only at hj hlj st ⊢
    by_cases hjl : ¬ j < n' / 512
    · skip
      refine WC.seq fun K803 hK803 => ?_
      -- region 25
      refine WC.region ?_
      -- R25.0 71 := laws.go:70 binOp
      refine WL.v (by first | exact r_lss rfl rfl (decide_eq_true (by omega)) | exact r_lss rfl rfl (decide_eq_false (by omega)) | exact r_lss rfl rfl rfl) rfl rfl rfl ?_
      refine WL.fin hK803 (fun _ _ h => h) ?_
      refine WC.seq fun K804 hK804 => ?_
      refine WC.condF rfl rfl ?_
      refine WC.exitF hK791 (fun _ _ h => h) ?_
      -- region 35
      refine WC.region ?_
      -- R35.0 103 := laws.go:53 binOp
      refine WL.v (by exact r_add (r := ((i + 1 : Nat) : Int)) rfl rfl ((wi64 (by omega) (by omega)).trans (by omega))) rfl rfl rfl ?_
      -- R35.1 25 := laws.go:53 move
      refine WL.v (by first | exact r_move (v := .int _ _) rfl | exact r_move rfl) rfl rfl rfl ?_
      refine WL.next hK1 (fun _ _ h => h) (D', P, i + 1, bm, NJ, cr, [iI bb n' fun j => seenP P (sn + j / 512) (j % 512)] ++ K) ⟨h', by show i + 1 ≤ n; omega, by show P.wr ≤ 128 * (i + 1); omega, hlj, st.drop3.sublist ((((di_sub (List.sublist_append_right _ _)).cons_cons _).cons_cons _).cons_cons _)⟩ (by show n - (i + 1) < n - i; omega) (by repeat (first | exact sub_nil _ | refine sub_cons rfl rfl ?_))
    have hjl : j < n' / 512 := by omega
    obtain rfl := hoa (by omega)
    have hgot : Sees w0 ([iI bb n' fun j => seenP P (sn + j / 512) (j % 512)] ++ K) (.slice (some ⟨bb, j * 512, none⟩) 512 (n' - j * 512)) (bytesOf 512 (seenP P (sn + j))) := by
      have e : bytesOf 512 (seenP P (sn + j)) = bytesOf 512 (fun k => (fun j => seenP P (sn + j / 512) (j % 512)) (j * 512 + k)) := bytesOf_congr fun k hk => by
        show _ = seenP P (sn + (j * 512 + k) / 512) ((j * 512 + k) % 512)
        rw [show (j * 512 + k) / 512 = j by omega, show (j * 512 + k) % 512 = k by omega]
      rw [e]
      exact (Sees.part (f := fun j => seenP P (sn + j / 512) (j % 512)) (fun _ => hsr _ _) (by omega) (by omega)).mono (List.subset_append_left _ _)
    have hset := hlj.set (S' := seenP P) hgot (fun t k hk => by split <;> rename_i e <;> first | rw [e] | rfl)
    have hsub : ∀ x, x ∈ [iI bb n' fun j => seenP P (sn + j / 512) (j % 512)] ++ K → x ∈ sI bs D'.bD :: (bm, MapV (keyGood Go.Proofs.Tryd.prog 2) (gOf NJ)) :: iI b22 512 (fun _ => 0) :: (b8, Row 33 9 (nth (opC (op i)))) :: DI D' 0 (XI ++ ([iI bb n' fun j => seenP P (sn + j / 512) (j % 512)] ++ K)) := fun x hx => List.mem_cons_of_mem _ (List.mem_cons_of_mem _ (List.mem_cons_of_mem _ (List.mem_cons_of_mem _ (mem_in (List.mem_append_right _ hx)))))
    rcases hNJ : NJ ((sn + j : Nat) : Int) with _ | v
    rotate_left
    · obtain ⟨sn', e1, hsv⟩ := hlj.some _ _ hNJ
      obtain rfl : sn + j = sn' := by omega
      obtain ⟨va, vc, rfl⟩ := hsv.sl
      refine WC.seq fun K805 hK805 => ?_
      -- region 25
      refine WC.region ?_
      -- R25.0 71 := laws.go:70 binOp
      refine WL.v (by first | exact r_lss rfl rfl (decide_eq_true (by omega)) | exact r_lss rfl rfl (decide_eq_false (by omega)) | exact r_lss rfl rfl rfl) rfl rfl rfl ?_
      refine WL.fin hK805 (fun _ _ h => h) ?_
      refine WC.seq fun K806 hK806 => ?_
      refine WC.condT rfl rfl ?_
      refine WC.skipF hK806 (fun _ _ h => h) ?_
      refine WC.seq fun K807 hK807 => ?_
      refine WC.block ?_
      refine WC.seq fun K808 hK808 => ?_
      -- region 26
      refine WC.region ?_
      -- R26.0 72 := laws.go:70 move
      refine WL.v (by first | exact r_move (v := .int _ _) rfl | exact r_move rfl) rfl rfl rfl ?_
      -- R26.1 73 := laws.go:70 indexAddr
      refine WL.v (by exact r_indexS (j := j) ty_sl54 rfl rfl rfl hjl) rfl rfl rfl ?_
      -- R26.2 74 := laws.go:70 load
      refine WL.v (v := .slice (some ⟨bb, j * 512, none⟩) 512 (n' - j * 512)) (by exact r_load1 ty_one29 rfl (by rw [show 0 + j * 1 = j by omega, hord st (fun x hx => List.mem_cons_of_mem _ (List.mem_cons_of_mem _ (List.mem_cons_of_mem _ (List.mem_cons_of_mem _ (mem_in (List.mem_append_left _ hx)))))) j (by omega), hf j hjl, Nat.zero_add])) rfl rfl rfl ?_
      -- R26.3 12 := laws.go:70 assign
      refine WL.v (by first | exact r_assign (v := .int _ _) rfl | exact r_assign rfl) rfl rfl rfl ?_
      -- R26.4 13 := laws.go:70 assign
      refine WL.v (by first | exact r_assign (v := .slice _ _ _) rfl | exact r_assign rfl) rfl rfl rfl ?_
      refine WL.fin hK808 (fun _ _ h => h) ?_
      refine WC.seq fun K809 hK809 => ?_
      -- region 27
      refine WC.region ?_
      -- R27.0 75 := laws.go:71 fieldAddr
      refine WL.v (by exact r_field ty_fld33_1 rfl) rfl rfl rfl ?_
      -- R27.1 76 := laws.go:71 load
      refine WL.v (v := .int .i64 (sn : Nat)) (by exact r_load1 ty_one2 rfl ((st.c3 (by decide)).trans (show some (Value.int .i64 (op i).sct) = _ by rw [hsn]))) rfl rfl rfl ?_
      -- R27.2 77 := laws.go:71 move
      refine WL.v (by first | exact r_move (v := .int _ _) rfl | exact r_move rfl) rfl rfl rfl ?_
      -- R27.3 78 := laws.go:71 binOp
      refine WL.v (by exact r_add (r := ((sn + j : Nat) : Int)) rfl rfl ((wi64 (by omega) (by omega)).trans (by omega))) rfl rfl rfl ?_
      -- R27.4 14 := laws.go:71 assign
      refine WL.v (by first | exact r_assign (v := .int _ _) rfl | exact r_assign rfl) rfl rfl rfl ?_
      refine WL.fin hK809 (fun _ _ h => h) ?_
      refine WC.seq fun K810 hK810 => ?_
      -- region 28
      refine WC.region ?_
      -- R28.0 80 := laws.go:72 move
      refine WL.v (by first | exact r_move (v := .map _) rfl | exact r_move rfl) rfl rfl rfl ?_
      -- R28.1 81 := laws.go:72 move
      refine WL.v (by first | exact r_move (v := .int _ _) rfl | exact r_move rfl) rfl rfl rfl ?_
      -- R28.2 82 := laws.go:72 lookup
      refine WL.v (by exact r_lookok (G := gOf NJ) (v := .slice va (bytesOf 512 (seenP P (sn + j))).length vc) (t := true) ty_kb2 ty_mp45 ty_z129 rfl rfl st (by simp) (good64 (by omega) (by omega)) (by show (NJ ((sn + j : Nat) : Int)).getD _ = _; rw [hNJ]; rfl) (by show (NJ ((sn + j : Nat) : Int)).isSome = _; rw [hNJ]; rfl)) rfl rfl rfl ?_
      -- R28.3 79 := laws.go:72 move
      refine WL.v (by first | exact r_move (v := .tuple _) rfl | exact r_move rfl) rfl rfl rfl ?_
      -- R28.4 83 := laws.go:72 extract
      refine WL.v (by first | exact r_extract (v := .slice _ _ _) rfl rfl | exact r_extract rfl rfl) rfl rfl rfl ?_
      -- R28.5 84 := laws.go:72 extract
      refine WL.v (by first | exact r_extract (v := .bool _) rfl rfl | exact r_extract rfl rfl) rfl rfl rfl ?_
      -- R28.6 15 := laws.go:72 assign
      refine WL.v (by first | exact r_assign (v := .slice _ _ _) rfl | exact r_assign rfl) rfl rfl rfl ?_
      -- R28.7 16 := laws.go:72 assign
      refine WL.v (by first | exact r_assign (v := .bool _) rfl | exact r_assign rfl) rfl rfl rfl ?_
      refine WL.fin hK810 (fun _ _ h => h) ?_
      refine WC.seq fun K811 hK811 => ?_
      refine WC.seq fun K812 hK812 => ?_
      -- region 29
      refine WC.region ?_
      -- R29.0 85 := laws.go:73 move
      refine WL.v (by first | exact r_move (v := .bool _) rfl | exact r_move rfl) rfl rfl rfl ?_
      -- R29.1 86 := laws.go:73 unOp
      refine WL.v (by first | exact r_notT rfl | exact r_notF rfl | exact r_not rfl) rfl rfl rfl ?_
      -- R29.2 87 := laws.go:73 move
      refine WL.v (by first | exact r_move (v := .bool _) rfl | exact r_move rfl) rfl rfl rfl ?_
      -- R29.3 88 := laws.go:73 move
      refine WL.no rfl rfl ?_
      -- R29.4 89 := laws.go:73 unOp
      refine WL.no rfl rfl ?_
      -- R29.5 90 := laws.go:73 pick
      refine WL.v (by first | exact r_pickT (v := .bool _) rfl rfl | exact r_pickF (v := .bool _) rfl rfl) rfl rfl rfl ?_
      refine WL.fin hK812 (fun _ _ h => h) ?_
      refine WC.condF rfl rfl ?_
      refine WC.skipF hK811 (fun _ _ h => h) ?_
      refine WC.seq fun K813 hK813 => ?_
      refine WC.seq fun K814 hK814 => ?_
      -- region 31
      refine WC.region ?_
      -- R31.0 92 := laws.go:76 move
      refine WL.v (by first | exact r_move (v := .bool _) rfl | exact r_move rfl) rfl rfl rfl ?_
      -- R31.1 93 := laws.go:76 move
      refine WL.v (by first | exact r_move (v := .bool _) rfl | exact r_move rfl) rfl rfl rfl ?_
      -- R31.2 94 := laws.go:76 move
      refine WL.v (by first | exact r_move (v := .slice _ _ _) rfl | exact r_move rfl) rfl rfl rfl ?_
      -- R31.3 95 := laws.go:76 move
      refine WL.v (by first | exact r_move (v := .slice _ _ _) rfl | exact r_move rfl) rfl rfl rfl ?_
      -- R31.4 96 := laws.go:76 call
      refine WL.call (r_call ty_call22 rfl) rfl rfl rfl (equal_ok hgot hsv hsub hsub st) ?_
      rintro _ w ⟨r, rfl, hr, st⟩
      obtain rfl := hr rfl
      -- R31.5 97 := laws.go:76 unOp
      refine WL.v (by first | exact r_notT rfl | exact r_notF rfl | exact r_not rfl) rfl rfl rfl ?_
      -- R31.6 98 := laws.go:76 pick
      refine WL.v (by first | exact r_pickT (v := .bool _) rfl rfl | exact r_pickF (v := .bool _) rfl rfl) rfl rfl rfl ?_
      refine WL.fin hK814 (fun _ _ h => h) ?_
      refine WC.condF rfl rfl ?_
      refine WC.skipF hK813 (fun _ _ h => h) ?_
      -- region 33
      refine WC.region ?_
      -- R33.0 99 := laws.go:79 move
      refine WL.v (by first | exact r_move (v := .map _) rfl | exact r_move rfl) rfl rfl rfl ?_
      -- R33.1 100 := laws.go:79 move
      refine WL.v (by first | exact r_move (v := .int _ _) rfl | exact r_move rfl) rfl rfl rfl ?_
      -- R33.2 101 := laws.go:79 move
      refine WL.v (by first | exact r_move (v := .slice _ _ _) rfl | exact r_move rfl) rfl rfl rfl ?_
      -- R33.3 None := laws.go:79 mapUpdate
      refine WL.mapSetI (s := ((sn + j : Nat) : Int)) (val := .slice (some ⟨bb, j * 512, none⟩) 512 (n' - j * 512)) ty_kb2 st.front1 ty_mp45 rfl rfl rfl (good64 (by omega) (by omega)) rfl rfl ?_
      intro w st
      have st := st.back1
      refine WL.fin hK807 (fun _ _ h => h) ?_
      -- region 34
      refine WC.region ?_
      -- R34.0 102 := laws.go:70 binOp
      refine WL.v (by exact r_add (r := ((j + 1 : Nat) : Int)) rfl rfl ((wi64 (by omega) (by omega)).trans (by omega))) rfl rfl rfl ?_
      -- R34.1 70 := laws.go:70 move
      refine WL.v (by first | exact r_move (v := .int _ _) rfl | exact r_move rfl) rfl rfl rfl ?_
      refine WL.next hK2 (fun _ _ h => h) (j + 1, _) ⟨by show j + 1 ≤ _; omega, hset, st⟩ (by show _ - (j + 1) < _ - j; omega) (by repeat (first | exact sub_nil _ | refine sub_cons rfl rfl ?_))
    rcases cr with _ | _
    · have hz := hlj.none rfl _ hNJ
      refine WC.seq fun K815 hK815 => ?_
      -- region 25
      refine WC.region ?_
      -- R25.0 71 := laws.go:70 binOp
      refine WL.v (by first | exact r_lss rfl rfl (decide_eq_true (by omega)) | exact r_lss rfl rfl (decide_eq_false (by omega)) | exact r_lss rfl rfl rfl) rfl rfl rfl ?_
      refine WL.fin hK815 (fun _ _ h => h) ?_
      refine WC.seq fun K816 hK816 => ?_
      refine WC.condT rfl rfl ?_
      refine WC.skipF hK816 (fun _ _ h => h) ?_
      refine WC.seq fun K817 hK817 => ?_
      refine WC.block ?_
      refine WC.seq fun K818 hK818 => ?_
      -- region 26
      refine WC.region ?_
      -- R26.0 72 := laws.go:70 move
      refine WL.v (by first | exact r_move (v := .int _ _) rfl | exact r_move rfl) rfl rfl rfl ?_
      -- R26.1 73 := laws.go:70 indexAddr
      refine WL.v (by exact r_indexS (j := j) ty_sl54 rfl rfl rfl hjl) rfl rfl rfl ?_
      -- R26.2 74 := laws.go:70 load
      refine WL.v (v := .slice (some ⟨bb, j * 512, none⟩) 512 (n' - j * 512)) (by exact r_load1 ty_one29 rfl (by rw [show 0 + j * 1 = j by omega, hord st (fun x hx => List.mem_cons_of_mem _ (List.mem_cons_of_mem _ (List.mem_cons_of_mem _ (List.mem_cons_of_mem _ (mem_in (List.mem_append_left _ hx)))))) j (by omega), hf j hjl, Nat.zero_add])) rfl rfl rfl ?_
      -- R26.3 12 := laws.go:70 assign
      refine WL.v (by first | exact r_assign (v := .int _ _) rfl | exact r_assign rfl) rfl rfl rfl ?_
      -- R26.4 13 := laws.go:70 assign
      refine WL.v (by first | exact r_assign (v := .slice _ _ _) rfl | exact r_assign rfl) rfl rfl rfl ?_
      refine WL.fin hK818 (fun _ _ h => h) ?_
      refine WC.seq fun K819 hK819 => ?_
      -- region 27
      refine WC.region ?_
      -- R27.0 75 := laws.go:71 fieldAddr
      refine WL.v (by exact r_field ty_fld33_1 rfl) rfl rfl rfl ?_
      -- R27.1 76 := laws.go:71 load
      refine WL.v (v := .int .i64 (sn : Nat)) (by exact r_load1 ty_one2 rfl ((st.c3 (by decide)).trans (show some (Value.int .i64 (op i).sct) = _ by rw [hsn]))) rfl rfl rfl ?_
      -- R27.2 77 := laws.go:71 move
      refine WL.v (by first | exact r_move (v := .int _ _) rfl | exact r_move rfl) rfl rfl rfl ?_
      -- R27.3 78 := laws.go:71 binOp
      refine WL.v (by exact r_add (r := ((sn + j : Nat) : Int)) rfl rfl ((wi64 (by omega) (by omega)).trans (by omega))) rfl rfl rfl ?_
      -- R27.4 14 := laws.go:71 assign
      refine WL.v (by first | exact r_assign (v := .int _ _) rfl | exact r_assign rfl) rfl rfl rfl ?_
      refine WL.fin hK819 (fun _ _ h => h) ?_
      refine WC.seq fun K820 hK820 => ?_
      -- region 28
      refine WC.region ?_
      -- R28.0 80 := laws.go:72 move
      refine WL.v (by first | exact r_move (v := .map _) rfl | exact r_move rfl) rfl rfl rfl ?_
      -- R28.1 81 := laws.go:72 move
      refine WL.v (by first | exact r_move (v := .int _ _) rfl | exact r_move rfl) rfl rfl rfl ?_
      -- R28.2 82 := laws.go:72 lookup
      refine WL.v (by exact r_lookok (G := gOf NJ) (v := .slice none 0 0) (t := false) ty_kb2 ty_mp45 ty_z129 rfl rfl st (by simp) (good64 (by omega) (by omega)) (by show (NJ ((sn + j : Nat) : Int)).getD _ = _; rw [hNJ]; rfl) (by show (NJ ((sn + j : Nat) : Int)).isSome = _; rw [hNJ]; rfl)) rfl rfl rfl ?_
      -- R28.3 79 := laws.go:72 move
      refine WL.v (by first | exact r_move (v := .tuple _) rfl | exact r_move rfl) rfl rfl rfl ?_
      -- R28.4 83 := laws.go:72 extract
      refine WL.v (by first | exact r_extract (v := .slice _ _ _) rfl rfl | exact r_extract rfl rfl) rfl rfl rfl ?_
      -- R28.5 84 := laws.go:72 extract
      refine WL.v (by first | exact r_extract (v := .bool _) rfl rfl | exact r_extract rfl rfl) rfl rfl rfl ?_
      -- R28.6 15 := laws.go:72 assign
      refine WL.v (by first | exact r_assign (v := .slice _ _ _) rfl | exact r_assign rfl) rfl rfl rfl ?_
      -- R28.7 16 := laws.go:72 assign
      refine WL.v (by first | exact r_assign (v := .bool _) rfl | exact r_assign rfl) rfl rfl rfl ?_
      refine WL.fin hK820 (fun _ _ h => h) ?_
      refine WC.seq fun K821 hK821 => ?_
      refine WC.seq fun K822 hK822 => ?_
      -- region 29
      refine WC.region ?_
      -- R29.0 85 := laws.go:73 move
      refine WL.v (by first | exact r_move (v := .bool _) rfl | exact r_move rfl) rfl rfl rfl ?_
      -- R29.1 86 := laws.go:73 unOp
      refine WL.v (by first | exact r_notT rfl | exact r_notF rfl | exact r_not rfl) rfl rfl rfl ?_
      -- R29.2 87 := laws.go:73 move
      refine WL.v (by first | exact r_move (v := .bool _) rfl | exact r_move rfl) rfl rfl rfl ?_
      -- R29.3 88 := laws.go:73 move
      refine WL.v (by first | exact r_move (v := .bool _) rfl | exact r_move rfl) rfl rfl rfl ?_
      -- R29.4 89 := laws.go:73 unOp
      refine WL.v (by first | exact r_notT rfl | exact r_notF rfl | exact r_not rfl) rfl rfl rfl ?_
      -- R29.5 90 := laws.go:73 pick
      refine WL.v (by first | exact r_pickT (v := .bool _) rfl rfl | exact r_pickF (v := .bool _) rfl rfl) rfl rfl rfl ?_
      refine WL.fin hK822 (fun _ _ h => h) ?_
      refine WC.condT rfl rfl ?_
      -- region 30
      refine WC.region ?_
      -- R30.0 91 := laws.go:74 move
      refine WL.v (by first | exact r_move (v := .slice _ _ _) rfl | exact r_move rfl) rfl rfl rfl ?_
      -- R30.1 15 := laws.go:74 assign
      refine WL.v (by first | exact r_assign (v := .slice _ _ _) rfl | exact r_assign rfl) rfl rfl rfl ?_
      -- R30.2 16 := laws.go:74 assign
      refine WL.v (by first | exact r_assign (v := .bool _) rfl | exact r_assign rfl) rfl rfl rfl ?_
      refine WL.fin hK821 (fun _ _ h => h) ?_
      refine WC.seq fun K823 hK823 => ?_
      refine WC.seq fun K824 hK824 => ?_
      -- region 31
      refine WC.region ?_
      -- R31.0 92 := laws.go:76 move
      refine WL.v (by first | exact r_move (v := .bool _) rfl | exact r_move rfl) rfl rfl rfl ?_
      -- R31.1 93 := laws.go:76 move
      refine WL.v (by first | exact r_move (v := .bool _) rfl | exact r_move rfl) rfl rfl rfl ?_
      -- R31.2 94 := laws.go:76 move
      refine WL.v (by first | exact r_move (v := .slice _ _ _) rfl | exact r_move rfl) rfl rfl rfl ?_
      -- R31.3 95 := laws.go:76 move
      refine WL.v (by first | exact r_move (v := .slice _ _ _) rfl | exact r_move rfl) rfl rfl rfl ?_
      -- R31.4 96 := laws.go:76 call
      refine WL.call (r_call ty_call22 rfl) rfl rfl rfl (equal_ok hgot (Sees.img (bb := b22) (n := 512) (f := fun _ => 0) (fun _ => by decide) (by decide)) hsub (by intro x hx; simp only [List.mem_singleton] at hx; subst hx; exact List.mem_cons_of_mem _ (List.mem_cons_of_mem _ List.mem_cons_self)) st) ?_
      rintro _ w ⟨r, rfl, hr, st⟩
      obtain rfl := hr (bytesOf_congr hz)
      -- R31.5 97 := laws.go:76 unOp
      refine WL.v (by first | exact r_notT rfl | exact r_notF rfl | exact r_not rfl) rfl rfl rfl ?_
      -- R31.6 98 := laws.go:76 pick
      refine WL.v (by first | exact r_pickT (v := .bool _) rfl rfl | exact r_pickF (v := .bool _) rfl rfl) rfl rfl rfl ?_
      refine WL.fin hK824 (fun _ _ h => h) ?_
      refine WC.condF rfl rfl ?_
      refine WC.skipF hK823 (fun _ _ h => h) ?_
      -- region 33
      refine WC.region ?_
      -- R33.0 99 := laws.go:79 move
      refine WL.v (by first | exact r_move (v := .map _) rfl | exact r_move rfl) rfl rfl rfl ?_
      -- R33.1 100 := laws.go:79 move
      refine WL.v (by first | exact r_move (v := .int _ _) rfl | exact r_move rfl) rfl rfl rfl ?_
      -- R33.2 101 := laws.go:79 move
      refine WL.v (by first | exact r_move (v := .slice _ _ _) rfl | exact r_move rfl) rfl rfl rfl ?_
      -- R33.3 None := laws.go:79 mapUpdate
      refine WL.mapSetI (s := ((sn + j : Nat) : Int)) (val := .slice (some ⟨bb, j * 512, none⟩) 512 (n' - j * 512)) ty_kb2 st.front1 ty_mp45 rfl rfl rfl (good64 (by omega) (by omega)) rfl rfl ?_
      intro w st
      have st := st.back1
      refine WL.fin hK817 (fun _ _ h => h) ?_
      -- region 34
      refine WC.region ?_
      -- R34.0 102 := laws.go:70 binOp
      refine WL.v (by exact r_add (r := ((j + 1 : Nat) : Int)) rfl rfl ((wi64 (by omega) (by omega)).trans (by omega))) rfl rfl rfl ?_
      -- R34.1 70 := laws.go:70 move
      refine WL.v (by first | exact r_move (v := .int _ _) rfl | exact r_move rfl) rfl rfl rfl ?_
      refine WL.next hK2 (fun _ _ h => h) (j + 1, _) ⟨by show j + 1 ≤ _; omega, hset, st⟩ (by show _ - (j + 1) < _ - j; omega) (by repeat (first | exact sub_nil _ | refine sub_cons rfl rfl ?_))
    · skip
      refine WC.seq fun K825 hK825 => ?_
      -- region 25
      refine WC.region ?_
      -- R25.0 71 := laws.go:70 binOp
      refine WL.v (by first | exact r_lss rfl rfl (decide_eq_true (by omega)) | exact r_lss rfl rfl (decide_eq_false (by omega)) | exact r_lss rfl rfl rfl) rfl rfl rfl ?_
      refine WL.fin hK825 (fun _ _ h => h) ?_
      refine WC.seq fun K826 hK826 => ?_
      refine WC.condT rfl rfl ?_
      refine WC.skipF hK826 (fun _ _ h => h) ?_
      refine WC.seq fun K827 hK827 => ?_
      refine WC.block ?_
      refine WC.seq fun K828 hK828 => ?_
      -- region 26
      refine WC.region ?_
      -- R26.0 72 := laws.go:70 move
      refine WL.v (by first | exact r_move (v := .int _ _) rfl | exact r_move rfl) rfl rfl rfl ?_
      -- R26.1 73 := laws.go:70 indexAddr
      refine WL.v (by exact r_indexS (j := j) ty_sl54 rfl rfl rfl hjl) rfl rfl rfl ?_
      -- R26.2 74 := laws.go:70 load
      refine WL.v (v := .slice (some ⟨bb, j * 512, none⟩) 512 (n' - j * 512)) (by exact r_load1 ty_one29 rfl (by rw [show 0 + j * 1 = j by omega, hord st (fun x hx => List.mem_cons_of_mem _ (List.mem_cons_of_mem _ (List.mem_cons_of_mem _ (List.mem_cons_of_mem _ (mem_in (List.mem_append_left _ hx)))))) j (by omega), hf j hjl, Nat.zero_add])) rfl rfl rfl ?_
      -- R26.3 12 := laws.go:70 assign
      refine WL.v (by first | exact r_assign (v := .int _ _) rfl | exact r_assign rfl) rfl rfl rfl ?_
      -- R26.4 13 := laws.go:70 assign
      refine WL.v (by first | exact r_assign (v := .slice _ _ _) rfl | exact r_assign rfl) rfl rfl rfl ?_
      refine WL.fin hK828 (fun _ _ h => h) ?_
      refine WC.seq fun K829 hK829 => ?_
      -- region 27
      refine WC.region ?_
      -- R27.0 75 := laws.go:71 fieldAddr
      refine WL.v (by exact r_field ty_fld33_1 rfl) rfl rfl rfl ?_
      -- R27.1 76 := laws.go:71 load
      refine WL.v (v := .int .i64 (sn : Nat)) (by exact r_load1 ty_one2 rfl ((st.c3 (by decide)).trans (show some (Value.int .i64 (op i).sct) = _ by rw [hsn]))) rfl rfl rfl ?_
      -- R27.2 77 := laws.go:71 move
      refine WL.v (by first | exact r_move (v := .int _ _) rfl | exact r_move rfl) rfl rfl rfl ?_
      -- R27.3 78 := laws.go:71 binOp
      refine WL.v (by exact r_add (r := ((sn + j : Nat) : Int)) rfl rfl ((wi64 (by omega) (by omega)).trans (by omega))) rfl rfl rfl ?_
      -- R27.4 14 := laws.go:71 assign
      refine WL.v (by first | exact r_assign (v := .int _ _) rfl | exact r_assign rfl) rfl rfl rfl ?_
      refine WL.fin hK829 (fun _ _ h => h) ?_
      refine WC.seq fun K830 hK830 => ?_
      -- region 28
      refine WC.region ?_
      -- R28.0 80 := laws.go:72 move
      refine WL.v (by first | exact r_move (v := .map _) rfl | exact r_move rfl) rfl rfl rfl ?_
      -- R28.1 81 := laws.go:72 move
      refine WL.v (by first | exact r_move (v := .int _ _) rfl | exact r_move rfl) rfl rfl rfl ?_
      -- R28.2 82 := laws.go:72 lookup
      refine WL.v (by exact r_lookok (G := gOf NJ) (v := .slice none 0 0) (t := false) ty_kb2 ty_mp45 ty_z129 rfl rfl st (by simp) (good64 (by omega) (by omega)) (by show (NJ ((sn + j : Nat) : Int)).getD _ = _; rw [hNJ]; rfl) (by show (NJ ((sn + j : Nat) : Int)).isSome = _; rw [hNJ]; rfl)) rfl rfl rfl ?_
      -- R28.3 79 := laws.go:72 move
      refine WL.v (by first | exact r_move (v := .tuple _) rfl | exact r_move rfl) rfl rfl rfl ?_
      -- R28.4 83 := laws.go:72 extract
      refine WL.v (by first | exact r_extract (v := .slice _ _ _) rfl rfl | exact r_extract rfl rfl) rfl rfl rfl ?_
      -- R28.5 84 := laws.go:72 extract
      refine WL.v (by first | exact r_extract (v := .bool _) rfl rfl | exact r_extract rfl rfl) rfl rfl rfl ?_
      -- R28.6 15 := laws.go:72 assign
      refine WL.v (by first | exact r_assign (v := .slice _ _ _) rfl | exact r_assign rfl) rfl rfl rfl ?_
      -- R28.7 16 := laws.go:72 assign
      refine WL.v (by first | exact r_assign (v := .bool _) rfl | exact r_assign rfl) rfl rfl rfl ?_
      refine WL.fin hK830 (fun _ _ h => h) ?_
      refine WC.seq fun K831 hK831 => ?_
      refine WC.seq fun K832 hK832 => ?_
      -- region 29
      refine WC.region ?_
      -- R29.0 85 := laws.go:73 move
      refine WL.v (by first | exact r_move (v := .bool _) rfl | exact r_move rfl) rfl rfl rfl ?_
      -- R29.1 86 := laws.go:73 unOp
      refine WL.v (by first | exact r_notT rfl | exact r_notF rfl | exact r_not rfl) rfl rfl rfl ?_
      -- R29.2 87 := laws.go:73 move
      refine WL.v (by first | exact r_move (v := .bool _) rfl | exact r_move rfl) rfl rfl rfl ?_
      -- R29.3 88 := laws.go:73 move
      refine WL.v (by first | exact r_move (v := .bool _) rfl | exact r_move rfl) rfl rfl rfl ?_
      -- R29.4 89 := laws.go:73 unOp
      refine WL.v (by first | exact r_notT rfl | exact r_notF rfl | exact r_not rfl) rfl rfl rfl ?_
      -- R29.5 90 := laws.go:73 pick
      refine WL.v (by first | exact r_pickT (v := .bool _) rfl rfl | exact r_pickF (v := .bool _) rfl rfl) rfl rfl rfl ?_
      refine WL.fin hK832 (fun _ _ h => h) ?_
      refine WC.condF rfl rfl ?_
      refine WC.skipF hK831 (fun _ _ h => h) ?_
      refine WC.seq fun K833 hK833 => ?_
      refine WC.seq fun K834 hK834 => ?_
      -- region 31
      refine WC.region ?_
      -- R31.0 92 := laws.go:76 move
      refine WL.v (by first | exact r_move (v := .bool _) rfl | exact r_move rfl) rfl rfl rfl ?_
      -- R31.1 93 := laws.go:76 move
      refine WL.v (by first | exact r_move (v := .bool _) rfl | exact r_move rfl) rfl rfl rfl ?_
      -- R31.2 94 := laws.go:76 move
      refine WL.no rfl rfl ?_
      -- R31.3 95 := laws.go:76 move
      refine WL.no rfl rfl ?_
      -- R31.4 96 := laws.go:76 call
      refine WL.no rfl rfl ?_
      -- R31.5 97 := laws.go:76 unOp
      refine WL.no rfl rfl ?_
      -- R31.6 98 := laws.go:76 pick
      refine WL.v (by first | exact r_pickT (v := .bool _) rfl rfl | exact r_pickF (v := .bool _) rfl rfl) rfl rfl rfl ?_
      refine WL.fin hK834 (fun _ _ h => h) ?_
      refine WC.condF rfl rfl ?_
      refine WC.skipF hK833 (fun _ _ h => h) ?_
      -- region 33
      refine WC.region ?_
      -- R33.0 99 := laws.go:79 move
      refine WL.v (by first | exact r_move (v := .map _) rfl | exact r_move rfl) rfl rfl rfl ?_
      -- R33.1 100 := laws.go:79 move
      refine WL.v (by first | exact r_move (v := .int _ _) rfl | exact r_move rfl) rfl rfl rfl ?_
      -- R33.2 101 := laws.go:79 move
      refine WL.v (by first | exact r_move (v := .slice _ _ _) rfl | exact r_move rfl) rfl rfl rfl ?_
      -- R33.3 None := laws.go:79 mapUpdate
      refine WL.mapSetI (s := ((sn + j : Nat) : Int)) (val := .slice (some ⟨bb, j * 512, none⟩) 512 (n' - j * 512)) ty_kb2 st.front1 ty_mp45 rfl rfl rfl (good64 (by omega) (by omega)) rfl rfl ?_
      intro w st
      have st := st.back1
      refine WL.fin hK827 (fun _ _ h => h) ?_
      -- region 34
      refine WC.region ?_
      -- R34.0 102 := laws.go:70 binOp
      refine WL.v (by exact r_add (r := ((j + 1 : Nat) : Int)) rfl rfl ((wi64 (by omega) (by omega)).trans (by omega))) rfl rfl rfl ?_
      -- R34.1 70 := laws.go:70 move
      refine WL.v (by first | exact r_move (v := .int _ _) rfl | exact r_move rfl) rfl rfl rfl ?_
      refine WL.next hK2 (fun _ _ h => h) (j + 1, _) ⟨by show j + 1 ≤ _; omega, hset, st⟩ (by show _ - (j + 1) < _ - j; omega) (by repeat (first | exact sub_nil _ | refine sub_cons rfl rfl ?_))
  rw [hw0] at goal
  exact goal
end Go.Proofs.Qxb6500837aDoor

