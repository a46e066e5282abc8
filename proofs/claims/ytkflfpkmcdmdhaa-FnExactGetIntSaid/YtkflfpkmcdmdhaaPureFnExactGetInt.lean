/- Whatever the bytes and the place, the program's GetInt tells what the reference's GetInt tells and writes into no byte: the law answers true. No condition. -/
import Derived.Test.YtkflfpkmcdmdhaaPFnExactGetIntx2
import Derived.Test.YtkflfpkmcdmdhaaKit
namespace Go.Proofs.Ytkflfpkmcdmdhaa.Pure
open Go.RowKit Go.Proofs.Ytkflfpkmcdmdhaa.PFnExactGetInt Go.Proofs.YtkflfpkmcdmdhaaW.PrintWords Go.Proofs.YtkflfpkmcdmdhaaW.PrintLast Go.Proofs.YtkflfpkmcdmdhaaW.PrintMore Go.Proofs.Ytkflfpkmcdmdhaa.Kit

theorem toB (xs : List Int) (hn : xs.length ≤ 140737488351232) (k : Nat) (hk : xs.length < k) : laws_toByteS.f k xs = some xs := by
  unfold laws_toByteS.f
  rw [if_pos (by omega), if_pos (by omega), Int.toNat_natCast]
  exact toS_all laws_toByteS.l0 (fun _ _ _ _ => rfl) xs (by omega) k hk

theorem eqB (xs : List Int) (hn : xs.length ≤ 140737488351232) (k : Nat) (hk : xs.length < k) : laws_eqByteS.f k xs xs = some true := by
  unfold laws_eqByteS.f
  rw [if_pos rfl]
  exact eqS_all laws_eqByteS.l0 (fun _ _ _ _ => rfl) xs (by omega) k hk

/-- What the two tell alike: a number, the place behind it, and whether there is one. -/
def tell (r : Int × Int × Bool) : Int × Int × Int := if r.2.2 = true then (r.1, r.2.1, 0) else (0, 0, 3)

theorem pw (n : Nat) (h : n ≤ 8) : 0 < (128 : Int) ^ n ∧ (128 : Int) ^ n ≤ 72057594037927936 ∧ (2 : Int) ^ (7 * n) = 128 ^ n := by
  refine ⟨Int.pow_pos (by decide), ?_, ?_⟩
  · have h1 : (128 : Nat) ^ n ≤ 128 ^ 8 := Nat.pow_le_pow_right (by decide) h
    have e9 : (128 : Nat) ^ 8 = 72057594037927936 := by decide
    rw [e9] at h1
    have h2 := Int.ofNat_le.2 h1
    rw [Int.natCast_pow] at h2
    exact h2
  · rw [Int.pow_mul]; rfl

theorem shl_at (c : Int) (n : Nat) (hn : n ≤ 8) (h0 : 0 ≤ c) (h1 : c ≤ 127) : shl .i64 c (7 * (n : Int)) = c * 128 ^ n := by
  obtain ⟨hp0, hp1, hp2⟩ := pw n hn
  unfold shl
  have e : min (7 * (n : Int)).toNat IntKind.i64.bits = 7 * n := by
    have : IntKind.i64.bits = 64 := rfl
    omega
  rw [e, hp2]
  have hq : c * 128 ^ n ≤ 127 * 128 ^ n := Int.mul_le_mul_of_nonneg_right h1 (by omega)
  have hq0 : 0 ≤ c * 128 ^ n := Int.mul_nonneg h0 (by omega)
  rw [IntKind.wrap_i64]; omega

/-- One step of each of the two, up to its tests: p stands for 128 ^ n. -/
theorem stepS (b : List Int) (at' n : Nat) (v c p : Int) (hl : b.length ≤ 1048576) (hin : at' + n < b.length) (hn : n ≤ 8) (hc : rd b ((at' + n : Nat) : Int) = c) (hc0 : 0 ≤ c) (hc1 : c ≤ 255)
    (hp0 : 0 < p) (hp1 : p ≤ 72057594037927936) (hv0 : 0 ≤ v) (hv1 : v < p) (k : Nat) :
    spec_l03Get.l0 (k + 3) b at' v p n = if (if n = 8 then decide (c > 63) else false) = true then some (0, 0, false) else if c < 128 then (if (n : Int) = 0 then some (v + c % 128 * p, ((at' + n + 1 : Nat) : Int), true) else some (v + c % 128 * p, ((at' + n + 1 : Nat) : Int), decide (c > 0))) else (if (n : Int) < 8 then spec_l03Get.l0 k b at' (v + c % 128 * p) (wrap64 (p * 128)) ((n + 1 : Nat) : Int) else spec_l03Get.l0 k b at' (v + c % 128 * p) p ((n + 1 : Nat) : Int)) := by
  have hadd : wrap64 ((at' : Int) + (n : Int)) = ((at' + n : Nat) : Int) := by rw [w64 (by omega) (by omega)]; omega
  have hlt : decide (wrap64 ((at' : Int) + (n : Int)) < (b.length : Int)) = true := by rw [hadd]; exact decide_eq_true (by omega)
  have hnx : wrap64 (((at' + n : Nat) : Int) + 1) = ((at' + n + 1 : Nat) : Int) := by rw [w64 (by omega) (by omega)]; omega
  have hn1 : wrap64 ((n : Int) + 1) = ((n + 1 : Nat) : Int) := by rw [w64 (by omega) (by omega)]; omega
  have hc7 : c % 128 ≤ 127 := by omega
  have hq : c % 128 * p ≤ 127 * p := Int.mul_le_mul_of_nonneg_right hc7 (by omega)
  have hq0 : 0 ≤ c % 128 * p := Int.mul_nonneg (by omega) (by omega)
  have hsp : wrap64 (v + wrap64 ((Int.tmod c 128) * p)) = v + c % 128 * p := by
    rw [Int.tmod_eq_emod_of_nonneg hc0, w64 (x := c % 128 * p) (by omega) (by omega), w64 (by omega) (by omega)]
  rw [spec_l03Get.l0, if_pos (by omega), hlt, spec_l03Get.j1, if_pos rfl, hadd, if_pos (by omega), if_pos (by omega), hc, w64 (x := c) (by omega) (by omega)]
  by_cases h8 : n = 8
  · rw [if_pos (by omega), if_pos h8, spec_l03Get.j2, hadd, hsp, hnx, hn1]
  · rw [if_neg (by omega), if_neg h8, spec_l03Get.j2, hadd, hsp, hnx, hn1]

theorem stepI (b : List Int) (at' n : Nat) (v c p : Int) (hl : b.length ≤ 1048576) (hin : at' + n < b.length) (hn : n ≤ 8) (hc : rd b ((at' + n : Nat) : Int) = c) (hc0 : 0 ≤ c) (hc1 : c ≤ 255)
    (hp0 : 0 < p) (hp1 : p ≤ 72057594037927936) (hp2 : Aside0 ((2 : Int) ^ (7 * n) = p)) (hsh : Aside0 (shl .i64 (c % 128) (7 * (n : Int)) = c % 128 * p)) (hv0 : 0 ≤ v) (hv1 : v < p) (k : Nat) :
    impl_GetInt.l0 (k + 2) b at' v n = if c < 128 then (if v + c % 128 * p > 4611686018427387903 then some (0, 0, 3) else if v + c % 128 * p < 0 then some (0, 0, 3) else if c = 0 then (if (n : Int) > 0 then some (0, 0, 3) else some (v + c % 128 * p, ((at' + n + 1 : Nat) : Int), 0)) else some (v + c % 128 * p, ((at' + n + 1 : Nat) : Int), 0)) else impl_GetInt.l0 k b at' (v + c % 128 * p) ((n + 1 : Nat) : Int) := by
  have hadd : wrap64 ((at' : Int) + (n : Int)) = ((at' + n : Nat) : Int) := by rw [w64 (by omega) (by omega)]; omega
  have hlt : decide (wrap64 ((at' : Int) + (n : Int)) < (b.length : Int)) = true := by rw [hadd]; exact decide_eq_true (by omega)
  have hnx : wrap64 (((at' + n : Nat) : Int) + 1) = ((at' + n + 1 : Nat) : Int) := by rw [w64 (by omega) (by omega)]; omega
  have hn1 : wrap64 ((n : Int) + 1) = ((n + 1 : Nat) : Int) := by rw [w64 (by omega) (by omega)]; omega
  have hc7 : c % 128 ≤ 127 := by omega
  have hq : c % 128 * p ≤ 127 * p := Int.mul_le_mul_of_nonneg_right hc7 (by omega)
  have hq0 : 0 ≤ c % 128 * p := Int.mul_nonneg (by omega) (by omega)
  have hshift : (0 : Int) ≤ wrap64 (7 * (n : Int)) := by rw [w64 (by omega) (by omega)]; omega
  have hor : Go.bits .or .i64 v (shl .i64 (wrap64 (Go.bits .and .u8 c 127)) (wrap64 (7 * (n : Int)))) = v + c % 128 * p := by
    have b1 : v < 2 ^ 63 := by omega
    have b2 : c % 128 * p < 2 ^ 63 := by omega
    have b3 : 7 * n ≤ 62 := by omega
    have b4 : wrap64 (7 * (n : Int)) = 7 * (n : Int) := w64 (by omega) (by omega)
    have b5 : wrap64 (c % 128) = c % 128 := w64 (by omega) (by omega)
    have b6 : Go.bits .and .u8 c 127 = c % 128 := and127 _ hc0 (by omega)
    have hm : c % 128 * p % 2 ^ (7 * n) = 0 := by rw [hp2.out]; exact Int.mul_emod_left _ _
    have hv2 : v < 2 ^ (7 * n) := by rw [hp2.out]; exact hv1
    rw [b6, b5, b4, hsh.out, or_comm64 _ _ hv0 b1 hq0 b2, or_join (7 * n) b3 _ _ hq0 hm b2 hv0 hv2, Int.add_comm]
  rw [impl_GetInt.l0, if_pos (by omega), hlt, impl_GetInt.j1, if_pos rfl, hadd, if_pos (by omega), if_pos (by omega), if_pos hshift, hc, hor, hnx, hn1]

theorem both (b : List Int) (at' : Nat) (hl : b.length ≤ 1048576) (hat : at' ≤ b.length) (hb : ∀ x ∈ b, 0 ≤ x ∧ x ≤ 255) (d : Nat) : ∀ (n : Nat) (v : Int), n + d = 9 → 0 ≤ v → v < 128 ^ n →
    ∃ r : Int × Int × Bool, ∀ k, 3 * d + 3 ≤ k → spec_l03Get.l0 k b at' v (128 ^ (min n 8)) n = some r ∧ impl_GetInt.l0 k b at' v n = some (tell r) := by
  induction d with
  | zero =>
    intro n v hn h0 h1
    refine ⟨(0, 0, false), fun k hk => ?_⟩
    obtain ⟨k, rfl⟩ : ∃ m, k = m + 2 := ⟨k - 2, by omega⟩
    constructor
    · rw [spec_l03Get.l0, if_neg (by omega), spec_l03Get.j1, if_neg (by decide)]
    · rw [impl_GetInt.l0, if_neg (by omega), impl_GetInt.j1, if_neg (by decide)]; rfl
  | succ d ih =>
    intro n v hn h0 h1
    have en : min n 8 = n := by omega
    rw [en]
    by_cases hin : at' + n < b.length
    · have hr := hb _ (rd_mem b (at' + n) hin)
      obtain ⟨hp0, hp1, hp2⟩ := pw n (by omega)
      obtain ⟨c, hc⟩ : ∃ c, rd b ((at' + n : Nat) : Int) = c := ⟨_, rfl⟩
      rw [hc] at hr
      have hSt := stepS b at' n v c (128 ^ n) hl hin (by omega) hc hr.1 hr.2 hp0 hp1 h0 h1
      have hIt := stepI b at' n v c (128 ^ n) hl hin (by omega) hc hr.1 hr.2 hp0 hp1 ⟨hp2⟩ ⟨shl_at (c % 128) n (by omega) (by omega) (by omega)⟩ h0 h1
      have hc7 : c % 128 ≤ 127 := by omega
      have hq : c % 128 * 128 ^ n ≤ 127 * 128 ^ n := Int.mul_le_mul_of_nonneg_right hc7 (by omega)
      have hq0 : 0 ≤ c % 128 * 128 ^ n := Int.mul_nonneg (by omega) (by omega)
      have hnp : ((128 : Int) ^ n) * 128 = 128 ^ (n + 1) := (Int.pow_succ _ _).symm
      by_cases h8 : n = 8
      · have e8 : (128 : Int) ^ n = 72057594037927936 := by rw [h8]; rfl
        rw [e8] at hSt hIt h1 hq hq0 ⊢
        by_cases h63 : c > 63
        · refine ⟨(0, 0, false), fun k hk => ?_⟩
          obtain ⟨k, rfl⟩ : ∃ m, k = m + 4 := ⟨k - 4, by omega⟩
          constructor
          · rw [hSt (k + 1), if_pos h8, if_pos (decide_eq_true h63)]
          · rw [hIt (k + 2)]
            by_cases hc1 : c < 128
            · rw [if_pos hc1, if_pos (by omega)]; rfl
            · rw [if_neg hc1, impl_GetInt.l0, if_neg (by omega), impl_GetInt.j1, if_neg (by decide)]; rfl
        · have hd : ¬ (decide (c > 63) = true) := by simpa using h63
          refine ⟨(v + c % 128 * 72057594037927936, ((at' + n + 1 : Nat) : Int), decide (c > 0)), fun k hk => ?_⟩
          obtain ⟨k, rfl⟩ : ∃ m, k = m + 4 := ⟨k - 4, by omega⟩
          constructor
          · rw [hSt (k + 1), if_pos h8, if_neg hd, if_pos (by omega), if_neg (by omega)]
          · rw [hIt (k + 2), if_pos (by omega), if_neg (by omega), if_neg (by omega)]
            by_cases hc0 : c = 0
            · subst hc0; rw [if_pos rfl, if_pos (by omega)]; rfl
            · have hp : decide (c > 0) = true := decide_eq_true (by omega)
              rw [if_neg hc0]; simp [tell, hp]
      · obtain ⟨hq3, hq4, _⟩ := pw (n + 1) (by omega)
        generalize hpp : (128 : Int) ^ n = p at *
        by_cases hc1 : c < 128
        · refine ⟨(v + c % 128 * p, ((at' + n + 1 : Nat) : Int), decide (n = 0 ∨ c > 0)), fun k hk => ?_⟩
          obtain ⟨k, rfl⟩ : ∃ m, k = m + 4 := ⟨k - 4, by omega⟩
          constructor
          · rw [hSt (k + 1), if_neg h8, if_neg (by decide), if_pos hc1]
            by_cases hz : n = 0
            · rw [if_pos (by omega)]; simp [hz]
            · rw [if_neg (by omega)]; simp [hz]
          · rw [hIt (k + 2), if_pos hc1, if_neg (by omega), if_neg (by omega)]
            by_cases hc0 : c = 0
            · rw [if_pos hc0]
              by_cases hz : n = 0
              · rw [if_neg (by omega)]; simp [tell, hz]
              · rw [if_pos (by omega)]; simp [tell, hz, hc0]
            · have : c > 0 := by omega
              rw [if_neg hc0]; simp [tell, this]
        · obtain ⟨r, hr'⟩ := ih (n + 1) (v + c % 128 * p) (by omega) (by omega) (by rw [← hnp]; omega)
          refine ⟨r, fun k hk => ?_⟩
          obtain ⟨k, rfl⟩ : ∃ m, k = m + 3 := ⟨k - 3, by omega⟩
          constructor
          · rw [hSt k, if_neg h8, if_neg (by decide), if_neg hc1, if_pos (by omega), w64 (x := p * 128) (by omega) (by omega), hnp]
            have e2 : min (n + 1) 8 = n + 1 := by omega
            have := (hr' k (by omega)).1
            rwa [e2] at this
          · rw [hIt (k + 1), if_neg hc1]
            exact (hr' (k + 1) (by omega)).2
    · have hlt : decide (wrap64 ((at' : Int) + (n : Int)) < (b.length : Int)) = false := by rw [w64 (by omega) (by omega)]; exact decide_eq_false (by omega)
      refine ⟨(0, 0, false), fun k hk => ?_⟩
      obtain ⟨k, rfl⟩ : ∃ m, k = m + 2 := ⟨k - 2, by omega⟩
      constructor
      · rw [spec_l03Get.l0, if_pos (by omega), hlt, spec_l03Get.j1, if_neg (by decide)]
      · rw [impl_GetInt.l0, if_pos (by omega), hlt, impl_GetInt.j1, if_neg (by decide)]; rfl

theorem get_same (b : List Int) (a : Int) (hb : ∀ x ∈ b, 0 ≤ x ∧ x ≤ 255) : ∃ r : Int × Int × Int, ∀ k, 40 ≤ k → spec_GetInt.f k b a = some r ∧ impl_GetInt.f k b a = some r := by
  unfold spec_GetInt.f impl_GetInt.f impl_within.f
  by_cases hl : (b.length : Int) > 1048576
  · exact ⟨(0, 0, 2), fun k _ => by simp [hl]⟩
  · by_cases h0 : a < 0
    · refine ⟨(0, 0, 1), fun k hk => ?_⟩
      obtain ⟨k, rfl⟩ : ∃ m, k = m + 1 := ⟨k - 1, by omega⟩
      have : ¬ (0 ≤ a) := by omega
      simp [hl, h0, this, spec_GetInt.j0]
    · by_cases h1 : a > (b.length : Int)
      · refine ⟨(0, 0, 1), fun k hk => ?_⟩
        obtain ⟨k, rfl⟩ : ∃ m, k = m + 1 := ⟨k - 1, by omega⟩
        have h2 : ¬ a ≤ (b.length : Int) := by omega
        have h3 : 0 ≤ a := by omega
        have h1' : (b.length : Int) < a := h1
        simp [hl, h0, h1', h2, h3, spec_GetInt.j0]
      · obtain ⟨n, rfl⟩ : ∃ n : Nat, a = (n : Int) := ⟨a.toNat, by omega⟩
        obtain ⟨r, hr⟩ := both b n (by omega) (by omega) hb 9 0 0 (by omega) (by omega) (by decide)
        refine ⟨tell r, fun k hk => ?_⟩
        obtain ⟨k, rfl⟩ : ∃ m, k = m + 1 := ⟨k - 1, by omega⟩
        have e1 : spec_l03Get.l0 k b n 0 1 0 = some r := (hr k (by omega)).1
        have e2 : impl_GetInt.l0 (k + 1) b n 0 0 = some (tell r) := (hr (k + 1) (by omega)).2
        constructor
        · rw [if_neg hl, if_neg h0, decide_eq_false h1, spec_GetInt.j0, if_neg (by decide), spec_l03Get.f, e1]
          simp only [Option.bind_some, tell]
          split <;> rfl
        · rw [if_neg hl, if_pos (by omega), decide_eq_true (by omega)]
          simp only [Option.bind_some, if_true]
          exact e2

theorem FnExactGetInt : laws_FnExactGetInt.Pure := by
  intro b a _ hn hb _
  obtain ⟨r, hr⟩ := get_same b a (fun x hx => wf8 (hb x hx))
  refine ⟨b.length + 50, ?_⟩
  unfold laws_FnExactGetInt.f
  by_cases h : (b.length : Int) > 1048576
  · rw [if_pos h]
  · rw [if_neg h, toB b (by omega) _ (by omega)]
    simp only [Option.bind_some]
    rw [(hr _ (by omega)).1, (hr _ (by omega)).2]
    simp only [Option.bind_some, if_true, bne_self_eq_false]
    rw [laws_FnExactGetInt.j0, if_neg (by decide), toB b (by omega) _ (by omega)]
    simp only [Option.bind_some]
    rw [eqB b (by omega) _ (by omega)]
    simp

end Go.Proofs.Ytkflfpkmcdmdhaa.Pure
