import Derived.Test.Qxb6500841aDoorX16
set_option linter.unusedVariables false
set_option linter.unusedSimpArgs false
set_option maxRecDepth 20000
namespace Go.Proofs.Qxb6500841aDoor
open Go.RowKit Go.E1 Go.Wire

/-! Plain: no Go in sight. -/
abbrev Byt (B : List Int) : Prop := ∀ x, x ∈ B → 0 ≤ x ∧ x < 256

theorem take_getD : ∀ (B : List Int) (n : Nat), n ≤ B.length → B.take n = (List.range n).map fun i => B.getD i 0 := fun B n h => by
  apply List.ext_getElem?
  intro i
  by_cases hi : i < n
  · rw [List.getElem?_take_of_lt hi, List.getElem?_map, List.getElem?_range hi]
    simp [List.getD_eq_getElem?_getD, show i < B.length by omega]
  · rw [List.getElem?_eq_none (by simp; omega), List.getElem?_eq_none (by simp; omega)]

theorem be16_mk {a b : Int} (ha : 0 ≤ a ∧ a < 256) (hb : 0 ≤ b ∧ b < 256) : be16 (a * 256 + b) = [a, b] := by
  unfold be16; congr 1
  · omega
  · congr 1; omega
theorem be32_mk {a b c d : Int} (ha : 0 ≤ a ∧ a < 256) (hb : 0 ≤ b ∧ b < 256) (hc : 0 ≤ c ∧ c < 256) (hd : 0 ≤ d ∧ d < 256) : be32 (a * 16777216 + b * 65536 + c * 256 + d) = [a, b, c, d] := by
  unfold be32; congr 1
  · omega
  · congr 1
    · omega
    · congr 1
      · omega
      · congr 1; omega

theorem take_split {B : List Int} {k n : Nat} (h : k ≤ n) : B.take n = B.take k ++ (B.take n).drop k := by
  conv => lhs; rw [← List.take_append_drop k (B.take n)]
  rw [List.take_take, Nat.min_eq_left h]

theorem hl_len {B : List Int} (h : IpIn B) : ((B.take (ipHl B)).drop 20).length = ipHl B - 20 := by
  have := h.in_
  simp; omega
theorem hl_q {B : List Int} (hb : Byt B) (h : IpIn B) : ∃ q : Nat, ipHl B = q * 4 ∧ (q : Int) = B.getD 0 0 % 16 ∧ q < 16 := by
  have g := hb _ (getD_mem (l := B) (i := 0) (by have := h.len; omega))
  exact ⟨(B.getD 0 0 % 16).toNat, rfl, by omega, by omega⟩

theorem ip_bytes {B : List Int} (hb : Byt B) (h : IpIn B) : ipB (ipX B) ((B.take (ipHl B)).drop 20) = B.take (ipHl B) := by
  have h20 := h.len
  have g : ∀ i, i < 20 → 0 ≤ B.getD i 0 ∧ B.getD i 0 < 256 := fun i hi => hb _ (getD_mem (by omega))
  obtain ⟨q, hq, hq2, hq3⟩ := hl_q hb h
  have hhl := h.hl
  have hv := h.ver
  have g0 := g 0 (by omega)
  have g1 := g 1 (by omega)
  have g6 := g 6 (by omega)
  have g7 := g 7 (by omega)
  have e1 : be16 (16384 + ((20 + ((B.take (ipHl B)).drop 20).length) / 4 : Nat) * 256 + ipX B 0) = [B.getD 0 0, B.getD 1 0] := by
    rw [hl_len h, show (20 + (ipHl B - 20)) / 4 = q by omega, ← be16_mk g0 g1]
    congr 1
    show 16384 + (q : Int) * 256 + B.getD 1 0 = _
    omega
  have e2 : be16 (ipX B 1) = [B.getD 2 0, B.getD 3 0] := be16_mk (g 2 (by omega)) (g 3 (by omega))
  have e3 : be16 (ipX B 2) = [B.getD 4 0, B.getD 5 0] := be16_mk (g 4 (by omega)) (g 5 (by omega))
  have e4 : be16 (ipX B 3 * 8192 + ipX B 4) = [B.getD 6 0, B.getD 7 0] := by
    rw [← be16_mk g6 g7]
    congr 1
    show (B.getD 6 0 * 256 + B.getD 7 0) / 8192 * 8192 + (B.getD 6 0 * 256 + B.getD 7 0) % 8192 = _
    omega
  have e5 : be16 (ipX B 7) = [B.getD 10 0, B.getD 11 0] := be16_mk (g 10 (by omega)) (g 11 (by omega))
  refine Eq.trans ?_ (take_split (B := B) hhl).symm
  rw [take_getD B 20 h20]
  unfold ipB
  rw [e1, e2, e3, e4, e5]
  rfl

theorem tcp_bytes {B : List Int} (hb : Byt B) (h : TcpIn B) : tcpB (tcpX B) ((B.take (tcpOff B)).drop 20) = B.take (tcpOff B) := by
  have h20 := h.len
  have g : ∀ i, i < 20 → 0 ≤ B.getD i 0 ∧ B.getD i 0 < 256 := fun i hi => hb _ (getD_mem (by omega))
  have hhl := h.hl
  have hin := h.in_
  have g12 := g 12 (by omega)
  have g13 := g 13 (by omega)
  have hl : ((B.take (tcpOff B)).drop 20).length = tcpOff B - 20 := by simp; omega
  obtain ⟨q, hq, hq2⟩ : ∃ q : Nat, tcpOff B = q * 4 ∧ (q : Int) = B.getD 12 0 / 16 := ⟨(B.getD 12 0 / 16).toNat, rfl, by omega⟩
  have e0 : be16 (tcpX B 0) = [B.getD 0 0, B.getD 1 0] := be16_mk (g 0 (by omega)) (g 1 (by omega))
  have e1 : be16 (tcpX B 1) = [B.getD 2 0, B.getD 3 0] := be16_mk (g 2 (by omega)) (g 3 (by omega))
  have e2 : be32 (tcpX B 2) = [B.getD 4 0, B.getD 5 0, B.getD 6 0, B.getD 7 0] := be32_mk (g 4 (by omega)) (g 5 (by omega)) (g 6 (by omega)) (g 7 (by omega))
  have e3 : be32 (tcpX B 3) = [B.getD 8 0, B.getD 9 0, B.getD 10 0, B.getD 11 0] := be32_mk (g 8 (by omega)) (g 9 (by omega)) (g 10 (by omega)) (g 11 (by omega))
  have e4 : be16 (((20 + ((B.take (tcpOff B)).drop 20).length) / 4 : Nat) * 4096 + tcpX B 4 * 256 + tcpX B 5) = [B.getD 12 0, B.getD 13 0] := by
    rw [hl, show (20 + (tcpOff B - 20)) / 4 = q by omega, ← be16_mk g12 g13]
    congr 1
    show (q : Int) * 4096 + B.getD 12 0 % 16 * 256 + B.getD 13 0 = _
    omega
  have e6 : be16 (tcpX B 6) = [B.getD 14 0, B.getD 15 0] := be16_mk (g 14 (by omega)) (g 15 (by omega))
  have e7 : be16 (tcpX B 7) = [B.getD 16 0, B.getD 17 0] := be16_mk (g 16 (by omega)) (g 17 (by omega))
  have e8 : be16 (tcpX B 8) = [B.getD 18 0, B.getD 19 0] := be16_mk (g 18 (by omega)) (g 19 (by omega))
  refine Eq.trans ?_ (take_split (B := B) hhl).symm
  rw [take_getD B 20 h20]
  unfold tcpB
  rw [e0, e1, e2, e3, e4, e6, e7, e8]
  rfl

theorem eth_bytes {B : List Int} (hb : Byt B) (h : 14 ≤ B.length) : ethB (ethX B) = B.take 14 := by
  have g : ∀ i, i < 14 → 0 ≤ B.getD i 0 ∧ B.getD i 0 < 256 := fun i hi => hb _ (getD_mem (by omega))
  have e : be16 (ethX B 12) = [B.getD 12 0, B.getD 13 0] := be16_mk (g 12 (by omega)) (g 13 (by omega))
  rw [take_getD B 14 h]
  unfold ethB
  rw [e]
  rfl

theorem ic_bytes {B : List Int} (hb : Byt B) (h : IcIn B) : icB (icX B) (ipX (B.drop 8)) (((B.drop 8).take (ipHl (B.drop 8))).drop 20) = B.take 8 ++ (B.drop 8).take (ipHl (B.drop 8)) := by
  have h8 := h.len
  have g : ∀ i, i < 8 → 0 ≤ B.getD i 0 ∧ B.getD i 0 < 256 := fun i hi => hb _ (getD_mem (by omega))
  have e2 : be16 (icX B 2) = [B.getD 2 0, B.getD 3 0] := be16_mk (g 2 (by omega)) (g 3 (by omega))
  have e3 : be32 (icX B 3) = [B.getD 4 0, B.getD 5 0, B.getD 6 0, B.getD 7 0] := be32_mk (g 4 (by omega)) (g 5 (by omega)) (g 6 (by omega)) (g 7 (by omega))
  rw [take_getD B 8 h8]
  unfold icB
  rw [ip_bytes (fun x hx => hb x (List.mem_of_mem_drop hx)) h.ip, e2, e3]
  rfl

theorem ip_good {B : List Int} (hb : Byt B) (h : IpIn B) : ipP (ipX B) ((B.take (ipHl B)).drop 20).length := by
  have h20 := h.len
  have g6 := hb _ (getD_mem (l := B) (i := 6) (by omega))
  have g7 := hb _ (getD_mem (l := B) (i := 7) (by omega))
  obtain ⟨q, hq, hq2, hq3⟩ := hl_q hb h
  have hhl := h.hl
  have htot := h.tot
  have e1 : ipX B 1 = B.getD 2 0 * 256 + B.getD 3 0 := rfl
  have e3 : ipX B 3 = (B.getD 6 0 * 256 + B.getD 7 0) / 8192 := rfl
  have e4 : ipX B 4 = (B.getD 6 0 * 256 + B.getD 7 0) % 8192 := rfl
  refine ⟨by omega, by omega, ⟨?_, ?_⟩, ?_⟩
  · rw [hl_len h]; omega
  · rw [hl_len h]; omega
  · rw [hl_len h]; omega

theorem z_ip : IpR Z0 := ⟨by decide, by decide, by decide, by decide, by decide, by decide, by decide, by decide, by decide, by decide, by decide, by decide, by decide, by decide, by decide, by decide⟩
theorem z_tcp : TcpR Z0 := ⟨by decide, by decide, by decide, by decide, by decide, by decide, by decide, by decide, by decide⟩
theorem z_ic : IcR Z0 := ⟨by decide, by decide, by decide, by decide⟩
theorem zz_ip : zIp Z0 0 := ⟨rfl, rfl, rfl, rfl, rfl, rfl, rfl, rfl, ⟨rfl, rfl, rfl, rfl⟩, ⟨rfl, rfl, rfl, rfl⟩, rfl⟩
theorem zz_tcp : zTcp Z0 0 := ⟨rfl, rfl, rfl, rfl, rfl, rfl, rfl, rfl, rfl, rfl⟩
theorem zz_ic : zIc Z0 Z0 0 := ⟨rfl, rfl, rfl, rfl, zz_ip⟩

theorem tcpX_rng {B : List Int} (hb : Byt B) (h : 20 ≤ B.length) : TcpR (tcpX B) := by
  have g : ∀ i, i < 20 → 0 ≤ B.getD i 0 ∧ B.getD i 0 < 256 := fun i hi => hb _ (getD_mem (by omega))
  have g0 := g 0 (by omega); have g1 := g 1 (by omega); have g2 := g 2 (by omega); have g3 := g 3 (by omega); have g4 := g 4 (by omega)
  have g5 := g 5 (by omega); have g6 := g 6 (by omega); have g7 := g 7 (by omega); have g8 := g 8 (by omega); have g9 := g 9 (by omega)
  have g10 := g 10 (by omega); have g11 := g 11 (by omega); have g12 := g 12 (by omega); have g13 := g 13 (by omega); have g14 := g 14 (by omega)
  have g15 := g 15 (by omega); have g16 := g 16 (by omega); have g17 := g 17 (by omega); have g18 := g 18 (by omega); have g19 := g 19 (by omega)
  exact ⟨by simp only [tcpX]; omega, by simp only [tcpX]; omega, by simp only [tcpX]; omega, by simp only [tcpX]; omega, by simp only [tcpX]; omega, g13, by simp only [tcpX]; omega, by simp only [tcpX]; omega, by simp only [tcpX]; omega⟩
theorem icX_rng {B : List Int} (hb : Byt B) (h : 8 ≤ B.length) : IcR (icX B) := by
  have g : ∀ i, i < 8 → 0 ≤ B.getD i 0 ∧ B.getD i 0 < 256 := fun i hi => hb _ (getD_mem (by omega))
  have g2 := g 2 (by omega); have g3 := g 3 (by omega); have g4 := g 4 (by omega)
  have g5 := g 5 (by omega); have g6 := g 6 (by omega); have g7 := g 7 (by omega)
  exact ⟨g 0 (by omega), g 1 (by omega), by simp only [icX]; omega, by simp only [icX]; omega⟩

/-- A parsed frame is well formed, and its bytes are those it was parsed from. -/
theorem parsed_good {bs : List Int} (hb : Byt bs) (hbl : bs.length ≤ 1000000000) (f : FD) (ho1 : f.s1.ok) (ho2 : f.s2.ok) (ho3 : f.s3.ok) (ho4 : f.s4.ok) (ho5 : f.s5.ok) (h : Parsed bs f.k f.e f.x f.t f.y f.z f.s1.bs f.s2.bs f.s3.bs f.s4.bs f.s5.bs) :
    f.ok ∧ checkP f ∧ frB f = bs := by
  obtain ⟨k, e, x, t, y, z, s1, s2, s3, s4, s5⟩ := f
  simp only at h ho1 ho2 ho3 ho4 ho5
  obtain ⟨h14, he, hk⟩ := h
  have g : ∀ i, i < 14 → 0 ≤ bs.getD i 0 ∧ bs.getD i 0 < 256 := fun i hi => hb _ (getD_mem (by omega))
  have heb : ∀ i, i < 12 → 0 ≤ e i ∧ e i < 256 := fun i hi => by
    rw [he]; unfold ethX; rw [if_neg (by omega)]; exact g i (by omega)
  have he12 : 0 ≤ e 12 ∧ e 12 < 65536 := by
    have g12 := g 12 (by omega)
    have g13 := g 13 (by omega)
    rw [he]; unfold ethX; rw [if_pos rfl]; omega
  have heth : ethB e = bs.take 14 := by rw [he]; exact eth_bytes hb h14
  rcases hk with ⟨rfl, ht, rfl, rfl, rfl, rfl, h1, h2, h3, h4, h5⟩ | ⟨ht, hI, hx, h1, m, body, hm, hml, h5, hbody, hk⟩
  · have l1 : s1.bs.length = 0 := by rw [h1]; rfl
    have l2 : s2.bs.length = 0 := by rw [h2]; rfl
    have l3 : s3.bs.length = 0 := by rw [h3]; rfl
    have l4 : s4.bs.length = bs.length - 14 := by rw [h4]; simp
    have l5 : s5.bs.length = 0 := by rw [h5]; rfl
    refine ⟨⟨by simp, heb, he12, z_ip, z_tcp, z_ic, z_ip, ho1, ho2, ho3, ho4, ho5, by simp only; omega, by simp only; omega, by simp only; omega, by simp only; omega, by simp only; omega⟩, ⟨by simp, ?_, .inl ⟨rfl, ht⟩⟩, ?_⟩
    · intro h
      simp only [strayP, l1, l2, l3, l5] at h
      rcases h with h | h | h | h
      · exact h.2 ⟨zz_ip, zz_tcp, zz_ic, trivial⟩
      · simp at h
      · simp at h
      · exact h.1.1 rfl
    · simp only [frB, if_pos, heth, h4, h5]
      simp
  · have hbd : Byt (bs.drop 14) := fun x hx => hb x (List.mem_of_mem_drop hx)
    have hxr : IpR x := by rw [hx]; exact ipX_rng hbd hI.len
    have hip : ipP x s1.bs.length := by rw [hx, h1]; exact ip_good hbd hI
    have hn1 : 20 + s1.bs.length = ipHl (bs.drop 14) := by rw [h1, hl_len hI]; have := hI.hl; omega
    have hipb : ipB x s1.bs = (bs.drop 14).take (ipHl (bs.drop 14)) := by rw [hx, h1]; exact ip_bytes hbd hI
    have hhm : ipHl (bs.drop 14) ≤ m := by
      have h1' := hI.tot
      have h2' : (bs.drop 14).getD 2 0 * 256 + (bs.drop 14).getD 3 0 = x 1 := by rw [hx]; rfl
      omega
    have hbb : Byt body := fun q hq => by rw [hbody] at hq; exact hbd q (List.mem_of_mem_take (List.mem_of_mem_drop hq))
    have hbl2 : body.length = m - ipHl (bs.drop 14) := by rw [hbody]; simp; simp at hml; omega
    have hd14 : (bs.drop 14).length = bs.length - 14 := by simp
    have ltr : s5.bs.length = bs.length - 14 - m := by rw [h5]; simp; omega
    have l1 : s1.bs.length ≤ 1000000000 := by have := hI.in_; omega
    have hglue : ∀ mid : List Int, mid = body → bs.take 14 ++ (bs.drop 14).take (ipHl (bs.drop 14)) ++ mid ++ (bs.drop 14).drop m = bs := fun mid hmid => by
      rw [hmid, hbody, List.append_assoc (bs.take 14), ← take_split hhm, List.append_assoc, List.take_append_drop, List.take_append_drop]
    rcases hk with ⟨rfl, hop, rfl, rfl, rfl, h2, h3, h4⟩ | ⟨rfl, hop, h6, hT, hte, h2, h4, rfl, rfl, h3⟩ | ⟨rfl, hop, h6, hC, hye, hze, h3, h4, rfl, h2⟩
    · have l2 : s2.bs.length = 0 := by rw [h2]; rfl
      have l3 : s3.bs.length = 0 := by rw [h3]; rfl
      have l4 : s4.bs.length = body.length := by rw [h4]
      refine ⟨⟨by simp, heb, he12, hxr, z_tcp, z_ic, z_ip, ho1, ho2, ho3, ho4, ho5, by simp only; omega, by simp only; omega, by simp only; omega, by simp only; omega, by simp only; omega⟩, ⟨by simp, ?_, .inr ⟨by simp, ht, hip, .inl ⟨rfl, by simp only; rw [h4]; exact hop⟩, ?_⟩⟩, ?_⟩
      · intro h
        simp only [strayP, l2, l3] at h
        rcases h with h | h | h | h
        · simp at h
        · exact h.2 ⟨zz_tcp, zz_ic⟩
        · simp at h
        · exact h.1.2.1 rfl
      · have e : innerN ⟨1, e, x, Z0, Z0, Z0, s1, s2, s3, s4, s5⟩ = 0 := rfl
        simp only [e]; omega
      · have e : frB ⟨1, e, x, Z0, Z0, Z0, s1, s2, s3, s4, s5⟩ = ethB e ++ ipB x s1.bs ++ [] ++ s4.bs ++ s5.bs := rfl
        rw [e, heth, hipb, h4, h5, List.append_nil]; exact hglue body rfl
    · have l2 : 20 + s2.bs.length = tcpOff body := by rw [h2]; have := hT.hl; have := hT.in_; simp; omega
      have l3 : s3.bs.length = 0 := by rw [h3]; rfl
      have l4 : s4.bs.length = body.length - tcpOff body := by rw [h4]; simp
      have hti := hT.in_
      have g12 := hbb _ (getD_mem (l := body) (i := 12) (by have := hT.len; omega))
      have hoff : tcpOff body = (body.getD 12 0 / 16).toNat * 4 := rfl
      have htcp : tcpP t s2.bs.length := by
        have e4 : tcpX body 4 = body.getD 12 0 % 16 := rfl
        refine ⟨by rw [hte, e4]; omega, by omega, by omega⟩
      refine ⟨⟨by simp, heb, he12, hxr, by rw [hte]; exact tcpX_rng hbb hT.len, z_ic, z_ip, ho1, ho2, ho3, ho4, ho5, by simp only; omega, by simp only; omega, by simp only; omega, by simp only; omega, by simp only; omega⟩, ⟨by simp, ?_, .inr ⟨by simp, ht, hip, .inr ⟨by simp, fun hf => hop (.inl hf), .inl ⟨rfl, h6, htcp⟩⟩, ?_⟩⟩, ?_⟩
      · intro h
        simp only [strayP, l3] at h
        rcases h with h | h | h | h
        · simp at h
        · simp at h
        · exact h.2 zz_ic
        · exact h.1.2.2 rfl
      · have e : innerN ⟨2, e, x, t, Z0, Z0, s1, s2, s3, s4, s5⟩ = 20 + s2.bs.length := rfl
        simp only [e]; omega
      · have e : frB ⟨2, e, x, t, Z0, Z0, s1, s2, s3, s4, s5⟩ = ethB e ++ ipB x s1.bs ++ tcpB t s2.bs ++ s4.bs ++ s5.bs := rfl
        rw [e, heth, hipb, hte, h2, tcp_bytes hbb hT, h4, h5]
        have := hglue (body.take (tcpOff body) ++ body.drop (tcpOff body)) (List.take_append_drop _ _)
        simpa only [List.append_assoc] using this
    · have hbd8 : Byt (body.drop 8) := fun q hq => hbb q (List.mem_of_mem_drop hq)
      have hl8 := hC.len
      have hcq := hC.q
      have l3 : 20 + s3.bs.length = ipHl (body.drop 8) := by rw [h3, hl_len hC.ip]; have := hC.ip.hl; omega
      have l2 : s2.bs.length = 0 := by rw [h2]; rfl
      have l4 : s4.bs.length = body.length - 8 - ipHl (body.drop 8) := by rw [h4]; simp; omega
      have hnf : ¬ fragP x := fun hf => hop (.inl hf)
      have hin : x 6 = 1 ∧ icmpE (body.getD 0 0) := by
        by_cases h61 : x 6 = 1
        · refine ⟨h61, ?_⟩
          by_cases hi : icmpE (body.getD 0 0)
          · exact hi
          · exact absurd (.inr ⟨h6, fun _ => .inr hi⟩) hop
        · exact absurd (.inr ⟨h6, fun h => absurd h h61⟩) hop
      have hicp : icP y z s3.bs.length s4.bs.length := by
        refine ⟨by rw [hye]; exact hin.2, by rw [hze, h3]; exact ip_good hbd8 hC.ip, by omega⟩
      refine ⟨⟨by simp, heb, he12, hxr, z_tcp, by rw [hye]; exact icX_rng hbb hl8, by rw [hze]; exact ipX_rng hbd8 hC.ip.len, ho1, ho2, ho3, ho4, ho5, by simp only; omega, by simp only; omega, by simp only; omega, by simp only; omega, by simp only; omega⟩, ⟨by simp, ?_, .inr ⟨by simp, ht, hip, .inr ⟨by simp, hnf, .inr ⟨by simp, hin.1, hicp⟩⟩, ?_⟩⟩, ?_⟩
      · intro h
        simp only [strayP, l2] at h
        rcases h with h | h | h | h
        · simp at h
        · simp at h
        · simp at h
        · exact h.2 zz_tcp
      · have e : innerN ⟨3, e, x, Z0, y, z, s1, s2, s3, s4, s5⟩ = 28 + s3.bs.length := rfl
        simp only [e]; omega
      · have e : frB ⟨3, e, x, Z0, y, z, s1, s2, s3, s4, s5⟩ = ethB e ++ ipB x s1.bs ++ icB y z s3.bs ++ s4.bs ++ s5.bs := rfl
        rw [e, heth, hipb, hye, hze, h3, ic_bytes hbb hC, h4, h5]
        have := hglue (body.take 8 ++ ((body.drop 8).take (ipHl (body.drop 8)) ++ (body.drop 8).drop (ipHl (body.drop 8)))) (by rw [List.take_append_drop, List.take_append_drop])
        simpa only [List.append_assoc] using this
end Go.Proofs.Qxb6500841aDoor

