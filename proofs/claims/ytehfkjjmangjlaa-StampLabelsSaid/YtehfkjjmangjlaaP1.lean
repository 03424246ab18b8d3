/- Contracts of functions of the program, walked over abstract values. -/
import Derived.Test.YtehfkjjmangjlaaW8
set_option linter.unusedSimpArgs false
set_option linter.unusedVariables false
namespace Go.Proofs.Ytehfkjjmangjlaa.Ax
open Go Go.Ax Go.Proofs

theorem bA_ofBs (zs : List Int) (i : Nat) (h : i < zs.length) (hz : ∀ z ∈ zs, 0 ≤ z ∧ z ≤ 255) : bA (ofBs zs) i = zs.getD i 0 := by
  unfold bA ofBs
  simp only [List.getD_eq_getElem?_getD, List.getElem?_map, List.getElem?_eq_getElem h, Option.map_some, Option.getD_some]
  obtain ⟨h1, h2⟩ := hz zs[i] (List.getElem_mem h)
  rw [UInt8.toNat_ofNat']
  omega

theorem size_ofBs (zs : List Int) : (ofBs zs).size = zs.length := by
  unfold ofBs
  simp [ByteArray.size]

theorem hexO_len (xs : List Int) : (hexO xs).length = 2 * xs.length := by
  induction xs with
  | nil => rfl
  | cons x xs ih =>
    have : hexO (x :: xs) = digI (x / 16) :: digI (x % 16) :: hexO xs := rfl
    rw [this]; simp [ih]; omega

theorem hexO_at (xs : List Int) : ∀ j, j < xs.length → (hexO xs).getD (2 * j) 0 = digI (xs.getD j 0 / 16) ∧ (hexO xs).getD (2 * j + 1) 0 = digI (xs.getD j 0 % 16) := by
  induction xs with
  | nil => intro j h; simp at h
  | cons x xs ih =>
    intro j h
    have e : hexO (x :: xs) = digI (x / 16) :: digI (x % 16) :: hexO xs := rfl
    rw [e]
    cases j with
    | zero => exact ⟨rfl, rfl⟩
    | succ j =>
      obtain ⟨h1, h2⟩ := ih j (by simpa using h)
      rw [show 2 * (j + 1) = 2 * j + 1 + 1 by omega]
      exact ⟨h1, h2⟩

theorem digI_rng (v : Int) (h : 0 ≤ v ∧ v ≤ 15) : 0 ≤ digI v ∧ digI v ≤ 255 := by unfold digI; split <;> omega
theorem hexO_rng (xs : List Int) (hx : ∀ x ∈ xs, 0 ≤ x ∧ x ≤ 255) : ∀ z ∈ hexO xs, 0 ≤ z ∧ z ≤ 255 := by
  intro z hz
  unfold hexO at hz
  obtain ⟨x, h1, h2⟩ := List.mem_flatMap.1 hz
  have := hx x h1
  simp at h2
  rcases h2 with rfl | rfl <;> exact digI_rng _ (by omega)

theorem val_dig (v : Int) (h : 0 ≤ v ∧ v ≤ 15) : valI (digI v) = v := by
  unfold digI; split <;> (unfold valI; (repeat' split) <;> omega)

theorem getD_mem {xs : List Int} {j : Nat} (h : j < xs.length) : xs.getD j 0 ∈ xs := by
  rw [List.getD_eq_getElem?_getD, List.getElem?_eq_getElem h]; exact List.getElem_mem h

theorem dig_hex (xs : List Int) (hx : ∀ x ∈ xs, 0 ≤ x ∧ x ≤ 255) (j : Nat) (h : j < xs.length) : dig (ofBs (hexO xs)) (2 * j) = xs.getD j 0 / 16 ∧ dig (ofBs (hexO xs)) (2 * j + 1) = xs.getD j 0 % 16 := by
  have hr := hexO_rng xs hx
  have hl := hexO_len xs
  have hm := hx _ (getD_mem h)
  obtain ⟨h1, h2⟩ := hexO_at xs j h
  unfold dig
  rw [bA_ofBs _ _ (by omega) hr, bA_ofBs _ _ (by omega) hr, h1, h2, val_dig _ (by omega), val_dig _ (by omega)]
  exact ⟨rfl, rfl⟩

theorem unhex_hex (xs : List Int) (hx : ∀ x ∈ xs, 0 ≤ x ∧ x ≤ 255) (hl : xs.length ≤ 2000) : unhexF (ofBs (hexO xs)) = (xs, 0, 0) := by
  have hs : (ofBs (hexO xs)).size = 2 * xs.length := by rw [size_ofBs, hexO_len]
  have hd : ∀ j, j < (ofBs (hexO xs)).size → dig (ofBs (hexO xs)) j ≤ 15 := by
    intro j hj
    obtain ⟨h1, h2⟩ := dig_hex xs hx (j / 2) (by omega)
    have hm := hx _ (getD_mem (xs := xs) (j := j / 2) (by omega))
    rcases Nat.mod_two_eq_zero_or_one j with h | h
    · rw [show j = 2 * (j / 2) by omega, h1]; omega
    · rw [show j = 2 * (j / 2) + 1 by omega, h2]; omega
  rw [unhexF, if_neg (by omega), bad_no hd]
  show (if _ then _ else _) = _
  rw [if_neg (by omega)]
  congr 1
  rw [hs]
  unfold outI
  rw [show (2 * xs.length + 1) / 2 = xs.length by omega]
  apply List.ext_getElem
  · simp
  · intro j h1 h2
    simp only [List.getElem_map, List.getElem_range]
    obtain ⟨g1, g2⟩ := dig_hex xs hx j h2
    unfold hexAt
    rw [g1, g2, if_pos (by omega), List.getD_eq_getElem?_getD, List.getElem?_eq_getElem h2]
    simp only [Option.getD_some]
    omega

theorem firstBad_none {s : ByteArray} (h : firstBad s = none) : ∀ j, j < s.size → dig s j ≤ 15 := by
  unfold firstBad at h
  rw [List.find?_eq_none] at h
  intro j hj
  have := h j (by simpa using hj)
  simp at this; omega

theorem firstBad_lt {s : ByteArray} {i : Nat} (h : firstBad s = some i) : i < s.size := by
  unfold firstBad at h
  rw [List.find?_range_eq_some] at h
  simpa using h.2.1

/-- What is told of a text. -/
theorem unhex_cases (s : ByteArray) : (∃ at_ c : Int, unhexF s = ([], at_, c) ∧ c ≠ 0 ∧ 0 ≤ at_ ∧ at_ ≤ s.size) ∨ (unhexF s = (outI s s.size, 0, 0) ∧ (∀ j, j < s.size → dig s j ≤ 15) ∧ s.size % 2 = 0 ∧ s.size ≤ 131072) := by
  unfold unhexF
  split
  · exact .inl ⟨0, 2, rfl, by decide, by omega, by omega⟩
  · split
    · rename_i i hi
      have := firstBad_lt hi
      exact .inl ⟨i, 11, rfl, by decide, by omega, by omega⟩
    · rename_i hb
      split
      · exact .inl ⟨s.size, 10, rfl, by decide, by omega, by omega⟩
      · exact .inr ⟨rfl, firstBad_none hb, by omega, by omega⟩

theorem dig_val (c : Int) (h : valI c ≤ 15) : digI (valI c) = c ∨ (65 ≤ c ∧ c ≤ 70 ∧ digI (valI c) = c + 32) := by
  unfold valI at h ⊢
  (repeat' split at h) <;> (first | omega | skip)
  all_goals (simp only [*, if_true, if_false, and_self, true_and]; unfold digI; split <;> omega)

theorem outI_rng (s : ByteArray) (hd : ∀ j, j < s.size → dig s j ≤ 15) (he : s.size % 2 = 0) : ∀ x ∈ outI s s.size, 0 ≤ x ∧ x ≤ 255 := by
  intro x hx
  unfold outI at hx
  simp only [List.mem_map, List.mem_range] at hx
  obtain ⟨j, hj, rfl⟩ := hx
  have h1 := hd (2 * j) (by omega)
  have h2 := hd (2 * j + 1) (by omega)
  have h3 : 0 ≤ dig s (2 * j) := valI_ge _
  have h4 : 0 ≤ dig s (2 * j + 1) := valI_ge _
  unfold hexAt
  rw [if_pos (by omega)]
  omega

theorem hex_unhex (s : ByteArray) (hd : ∀ j, j < s.size → dig s j ≤ 15) (he : s.size % 2 = 0) : (ofBs (hexO (outI s s.size))).size = s.size ∧ ∀ i, i < s.size → bA (ofBs (hexO (outI s s.size))) i = digI (dig s i) := by
  have hl : (outI s s.size).length = s.size / 2 := by rw [outI_len]; omega
  have hr := outI_rng s hd he
  refine ⟨by rw [size_ofBs, hexO_len, hl]; omega, fun i hi => ?_⟩
  rw [bA_ofBs _ _ (by rw [hexO_len, hl]; omega) (hexO_rng _ hr)]
  obtain ⟨h1, h2⟩ := hexO_at (outI s s.size) (i / 2) (by omega)
  have e := outI_at s s.size (i / 2) (by omega)
  have d1 := hd (2 * (i / 2)) (by omega)
  have d2 := hd (2 * (i / 2) + 1) (by omega)
  have d3 : 0 ≤ dig s (2 * (i / 2)) := valI_ge _
  have d4 : 0 ≤ dig s (2 * (i / 2) + 1) := valI_ge _
  unfold hexAt at e
  rw [if_pos (by omega)] at e
  rcases Nat.mod_two_eq_zero_or_one i with h | h
  · have : i = 2 * (i / 2) := by omega
    rw [show (hexO (outI s s.size)).getD i 0 = (hexO (outI s s.size)).getD (2 * (i / 2)) 0 by rw [← this], h1, e, show dig s i = dig s (2 * (i / 2)) by rw [← this]]
    congr 1; omega
  · have : i = 2 * (i / 2) + 1 := by omega
    rw [show (hexO (outI s s.size)).getD i 0 = (hexO (outI s s.size)).getD (2 * (i / 2) + 1) 0 by rw [← this], h2, e, show dig s i = dig s (2 * (i / 2) + 1) by rw [← this]]
    congr 1; omega

end Go.Proofs.Ytehfkjjmangjlaa.Ax
