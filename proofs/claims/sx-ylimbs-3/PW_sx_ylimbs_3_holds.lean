import PyProof.Rows.All
import Wide.All
import OpenK.AllK
import Wide.FinOn
import PySem.Challenge.RW_sx_ylimbs_3
set_option Elab.async false
set_option linter.unusedVariables false
set_option genSizeOfSpec false
set_option genInjectivity false
namespace Mine

/-- base-10000 digits, the least first -/
def dg (n : Nat) : List Int := if h : n = 0 then [] else ((n % 10000 : Nat) : Int) :: dg (n / 10000)
termination_by n
decreasing_by omega
def vl : List Int → Int
  | [] => 0
  | x :: r => x + 10000 * vl r
def Ok (xs : List Int) : Prop := ∀ x ∈ xs, 0 ≤ x ∧ x < 10000

theorem dg_zero : dg 0 = [] := by rw [dg]; simp
theorem dg_pos {n : Nat} (h : n ≠ 0) : dg n = ((n % 10000 : Nat) : Int) :: dg (n / 10000) := by rw [dg]; simp [h]
theorem ok_nil : Ok [] := fun _ h => nomatch h
theorem ok_cons {x : Int} {r : List Int} : Ok (x :: r) ↔ (0 ≤ x ∧ x < 10000) ∧ Ok r := by
  unfold Ok; simp
theorem ok_append {xs ys : List Int} : Ok (xs ++ ys) ↔ Ok xs ∧ Ok ys := by
  unfold Ok; simp only [List.mem_append]
  exact ⟨fun h => ⟨fun x hx => h x (.inl hx), fun x hx => h x (.inr hx)⟩, fun h x hx => hx.elim (h.1 x) (h.2 x)⟩
theorem vl_dg (n : Nat) : vl (dg n) = n := by
  induction n using Nat.strongRecOn with
  | ind n ih =>
    by_cases h : n = 0
    · subst h; rw [dg_zero]; rfl
    · rw [dg_pos h, vl, ih (n / 10000) (by omega)]; omega
theorem ok_dg (n : Nat) : Ok (dg n) := by
  induction n using Nat.strongRecOn with
  | ind n ih =>
    by_cases h : n = 0
    · subst h; rw [dg_zero]; exact ok_nil
    · rw [dg_pos h, ok_cons]; exact ⟨by omega, ih _ (by omega)⟩
theorem dg_ne {n : Nat} (h : n ≠ 0) : dg n ≠ [] := by rw [dg_pos h]; exact List.cons_ne_nil _ _
theorem dg_nil {n : Nat} : dg n = [] ↔ n = 0 := ⟨fun h => Decidable.byContradiction fun q => dg_ne q h, fun h => by rw [h, dg_zero]⟩
theorem pw_pos (k : Nat) : (0 : Int) < 10000 ^ k := Int.pow_pos (by decide)
theorem pw_succ (k : Nat) : (10000 : Int) ^ (k + 1) = 10000 * 10000 ^ k := by rw [Int.pow_succ, Int.mul_comm]
theorem vl_nonneg : ∀ {xs : List Int}, Ok xs → 0 ≤ vl xs
  | [], _ => Int.le_refl _
  | x :: r, h => by
    rw [ok_cons] at h
    have := vl_nonneg h.2
    rw [vl]; omega
theorem vl_lt : ∀ {xs : List Int}, Ok xs → vl xs < 10000 ^ xs.length
  | [], _ => by decide
  | x :: r, h => by
    rw [ok_cons] at h
    have := vl_lt h.2
    rw [vl, List.length_cons, pw_succ]
    generalize (10000 : Int) ^ r.length = p at *
    omega
theorem vl_append : ∀ (xs ys : List Int), vl (xs ++ ys) = vl xs + 10000 ^ xs.length * vl ys
  | [], ys => by simp [vl]
  | x :: r, ys => by
    rw [List.cons_append, vl, vl_append r ys, vl, List.length_cons, pw_succ]
    rw [Int.mul_add, Int.mul_assoc]; omega
/-- a list in normal form is the digits of its value -/
theorem eq_dg : ∀ {xs : List Int}, Ok xs → (xs = [] ∨ (10000 : Int) ^ (xs.length - 1) ≤ vl xs) → xs = dg (vl xs).toNat
  | [], _, _ => by rw [show (vl []).toNat = 0 from rfl, dg_zero]
  | [x], h, q => by
    rw [ok_cons] at h
    have q' : (1 : Int) ≤ vl [x] := by simpa using q
    have e : vl [x] = x := by simp [vl]
    rw [e] at q' ⊢
    rw [dg_pos (by omega), show x.toNat / 10000 = 0 by omega, dg_zero]
    congr 1; omega
  | x :: y :: r, h, q => by
    have h1 := (ok_cons.mp h)
    have h0 := vl_nonneg h1.2
    have q' : (10000 : Int) ^ (r.length + 1) ≤ vl (x :: y :: r) := by simpa using q
    have q2 : (10000 : Int) ^ (((y :: r) : List Int).length - 1) ≤ vl (y :: r) := by
      rw [vl, pw_succ] at q'
      have e : (y :: r).length - 1 = r.length := by simp
      rw [e]
      generalize (10000 : Int) ^ r.length = p at *
      generalize vl (y :: r) = v at *
      omega
    have ih := eq_dg h1.2 (.inr q2)
    have hp := pw_pos (r.length + 1)
    rw [vl] at q' ⊢
    rw [dg_pos (by omega), show (x + 10000 * vl (y :: r)).toNat / 10000 = (vl (y :: r)).toNat by omega, ← ih]
    congr 1; omega
theorem dg_norm (n : Nat) : dg n = [] ∨ (10000 : Int) ^ ((dg n).length - 1) ≤ n := by
  induction n using Nat.strongRecOn with
  | ind n ih =>
    by_cases h : n = 0
    · left; rw [h, dg_zero]
    · right
      rw [dg_pos h, List.length_cons]
      rcases ih (n / 10000) (by omega) with e | e
      · rw [e]; simp; omega
      · by_cases q : n / 10000 = 0
        · rw [q, dg_zero]; simp; omega
        · obtain ⟨y, r, hr⟩ := List.exists_cons_of_ne_nil (dg_ne q)
          rw [hr] at e ⊢
          simp only [List.length_cons, Nat.add_sub_cancel] at e ⊢
          rw [pw_succ]
          generalize (10000 : Int) ^ r.length = p at *
          omega
theorem dg_lt (n : Nat) : (n : Int) < 10000 ^ (dg n).length := by
  have := vl_lt (ok_dg n); rwa [vl_dg] at this
theorem pw_mono {a b : Nat} (h : a ≤ b) : (10000 : Int) ^ a ≤ 10000 ^ b := by
  have h1 : (10000 : Nat) ^ a ≤ 10000 ^ b := Nat.pow_le_pow_right (by decide) h
  have h2 := Int.ofNat_le.mpr h1
  rw [Int.natCast_pow, Int.natCast_pow] at h2
  exact h2
theorem pw_lt_mono {a b : Nat} (h : (10000 : Int) ^ a < 10000 ^ b) : a < b :=
  Decidable.byContradiction fun q => absurd (pw_mono (Nat.not_lt.mp q)) (Int.not_le.mpr h)
/-- lengths by size -/
theorem dg_len_le {n k : Nat} (h : (n : Int) < 10000 ^ k) : (dg n).length ≤ k := by
  rcases dg_norm n with e | e
  · rw [e]; exact Nat.zero_le _
  · have := pw_lt_mono (Int.lt_of_le_of_lt e h); omega
theorem dg_inj {a b : Nat} (h : dg a = dg b) : a = b := by
  have := congrArg vl h; rw [vl_dg, vl_dg] at this; omega
theorem dg_of {xs : List Int} {n : Nat} (h : Ok xs) (v : vl xs = n) (q : xs = [] ∨ (10000 : Int) ^ (xs.length - 1) ≤ n) : xs = dg n := by
  have := eq_dg h (by rw [v]; exact q)
  rw [v] at this; simpa using this
theorem getD_lt {xs : List Int} {i : Nat} (h : i < xs.length) : xs[i]? = some (xs.getD i 0) := by simp [List.getD_eq_getElem?_getD, h]
theorem ok_getD {xs : List Int} (h : Ok xs) (i : Nat) : 0 ≤ xs.getD i 0 ∧ xs.getD i 0 < 10000 := by
  by_cases q : i < xs.length
  · exact h _ (List.mem_of_getElem? (getD_lt q))
  · rw [List.getD_eq_getElem?_getD, List.getElem?_eq_none (by omega)]; decide
theorem take_succ {xs : List Int} {i : Nat} (h : i < xs.length) : xs.take (i + 1) = xs.take i ++ [xs.getD i 0] := by
  rw [List.take_add_one, getD_lt h]; rfl
theorem vl_take_succ {xs : List Int} {i : Nat} (h : i < xs.length) : vl (xs.take (i + 1)) = vl (xs.take i) + 10000 ^ i * xs.getD i 0 := by
  rw [take_succ h, vl_append, List.length_take, Nat.min_eq_left (by omega)]; simp [vl]
theorem ok_take {xs : List Int} (h : Ok xs) (n : Nat) : Ok (xs.take n) := fun x hx => h x (List.mem_of_mem_take hx)
theorem ok_drop {xs : List Int} (h : Ok xs) (n : Nat) : Ok (xs.drop n) := fun x hx => h x (List.mem_of_mem_drop hx)
theorem vl_split (xs : List Int) (n : Nat) (h : n ≤ xs.length) : vl xs = vl (xs.take n) + 10000 ^ n * vl (xs.drop n) := by
  conv => lhs; rw [← List.take_append_drop n xs, vl_append]
  rw [List.length_take, Nat.min_eq_left h]
/-- trimming -/
theorem trim_step {xs : List Int} {n : Nat} (h1 : 0 < n) (h2 : n ≤ xs.length) (z : xs.getD (n - 1) 0 = 0) : vl (xs.take (n - 1)) = vl (xs.take n) := by
  obtain ⟨k, rfl⟩ : ∃ k, n = k + 1 := ⟨n - 1, by omega⟩
  rw [vl_take_succ (by omega)]
  simp only [Nat.add_sub_cancel] at z
  rw [z]; simp
theorem trim_done {xs : List Int} {n : Nat} (ok : Ok xs) (h2 : n ≤ xs.length) (e : vl (xs.take n) = vl xs) (z : n = 0 ∨ xs.getD (n - 1) 0 ≠ 0) : xs.take n = dg (vl xs).toNat := by
  rw [← e]
  refine eq_dg (ok_take ok n) ?_
  rcases z with rfl | z
  · left; rfl
  · by_cases q : n = 0
    · left; rw [q]; rfl
    · right
      obtain ⟨k, rfl⟩ : ∃ k, n = k + 1 := ⟨n - 1, by omega⟩
      rw [vl_take_succ (by omega), List.length_take, Nat.min_eq_left (by omega)]
      simp only [Nat.add_sub_cancel] at z ⊢
      have g := ok_getD ok k
      have v := vl_nonneg (ok_take ok k)
      have p := pw_pos k
      have := Int.mul_le_mul_of_nonneg_left (show (1 : Int) ≤ xs.getD k 0 by omega) (Int.le_of_lt p)
      omega
end Mine
namespace Mine
theorem len_mono {a b : Nat} (h : a ≤ b) : (dg a).length ≤ (dg b).length := dg_len_le (Int.lt_of_le_of_lt (by omega) (dg_lt b))
theorem len_mul {a b : Nat} (h : a < 10000 * b) : (dg a).length ≤ (dg b).length + 1 := by
  refine dg_len_le ?_
  have := dg_lt b
  rw [pw_succ]
  generalize (10000 : Int) ^ (dg b).length = p at *
  omega
theorem len_prod (a b : Nat) : (dg (a * b)).length ≤ (dg a).length + (dg b).length := by
  refine dg_len_le ?_
  have h1 := dg_lt a
  have h2 := dg_lt b
  rw [Int.pow_add, Int.natCast_mul]
  have hp := pw_pos (dg a).length
  exact Int.lt_of_le_of_lt (Int.mul_le_mul_of_nonneg_right (Int.le_of_lt h1) (by omega)) (Int.mul_lt_mul_of_pos_left h2 hp)
theorem len_lt {x y : Nat} (h : (dg x).length < (dg y).length) : x < y :=
  Decidable.byContradiction fun q => by have := len_mono (Nat.not_lt.mp q); omega
theorem len_pow (a j : Nat) : (dg (a ^ j)).length ≤ j * (dg a).length + 1 := by
  induction j with
  | zero => rw [Nat.pow_zero, dg_pos (by decide)]; simp [dg_zero]
  | succ j ih => rw [Nat.pow_succ]; have := len_prod (a ^ j) a; rw [Nat.succ_mul]; omega

theorem fi_step {n : Int} (h : 0 < n) : dg n.toNat = (n % 10000) :: dg (n / 10000).toNat := by
  rw [dg_pos (by omega)]
  congr 1
  · omega
  · congr 1; omega
theorem getD_ge {xs : List Int} {i : Nat} (h : xs.length ≤ i) : xs.getD i 0 = 0 := by
  rw [List.getD_eq_getElem?_getD, List.getElem?_eq_none h]; rfl
theorem drop_getD {xs : List Int} {i : Nat} (h : i < xs.length) : xs.drop i = xs.getD i 0 :: xs.drop (i + 1) := by
  rw [List.drop_eq_getElem_cons h, List.getD_eq_getElem?_getD, List.getElem?_eq_getElem h]; rfl
theorem vl_drop {xs : List Int} {i : Nat} (h : i < xs.length) : vl (xs.drop i) = xs.getD i 0 + 10000 * vl (xs.drop (i + 1)) := by
  rw [drop_getD h, vl]
theorem vl_take1 (xs : List Int) (i : Nat) : vl (xs.take (i + 1)) = vl (xs.take i) + 10000 ^ i * xs.getD i 0 := by
  by_cases h : i < xs.length
  · exact vl_take_succ h
  · rw [List.take_of_length_le (by omega), List.take_of_length_le (by omega), getD_ge (by omega)]; simp
theorem vl_snoc (xs : List Int) (v : Int) : vl (xs ++ [v]) = vl xs + 10000 ^ xs.length * v := by rw [vl_append]; simp [vl]
theorem ok_snoc {xs : List Int} {v : Int} (h : Ok xs) (h0 : 0 ≤ v) (h1 : v < 10000) : Ok (xs ++ [v]) := ok_append.mpr ⟨h, ok_cons.mpr ⟨⟨h0, h1⟩, ok_nil⟩⟩
theorem vl_set {xs : List Int} {k : Nat} (h : k < xs.length) (v : Int) : vl (xs.set k v) = vl xs + 10000 ^ k * (v - xs.getD k 0) := by
  induction xs generalizing k with
  | nil => simp at h
  | cons x r ih =>
    cases k with
    | zero => simp [vl]; omega
    | succ k =>
      rw [List.set_cons_succ, vl, vl, ih (by simpa using h), pw_succ]
      simp only [List.getD_cons_succ]
      rw [Int.mul_add, Int.mul_assoc]; omega
theorem ok_set {xs : List Int} (h : Ok xs) {k : Nat} {v : Int} (h0 : 0 ≤ v) (h1 : v < 10000) : Ok (xs.set k v) := fun x hx => by
  rcases List.mem_or_eq_of_mem_set hx with q | rfl
  · exact h x q
  · exact ⟨h0, h1⟩
theorem getD_set (xs : List Int) (k j : Nat) (v : Int) : (xs.set k v).getD j 0 = if k = j then (if k < xs.length then v else 0) else xs.getD j 0 := by
  rw [List.getD_eq_getElem?_getD, List.getElem?_set, List.getD_eq_getElem?_getD]
  split
  · split <;> simp_all
  · rfl
theorem ok_zeros (n : Nat) : Ok (List.replicate n 0) := fun x hx => by
  rw [List.eq_of_mem_replicate hx]; decide
theorem vl_zeros (n : Nat) : vl (List.replicate n 0) = 0 := by
  induction n with
  | zero => rfl
  | succ n ih => rw [List.replicate_succ, vl, ih]; rfl
theorem getD_zeros (n j : Nat) : (List.replicate n (0 : Int)).getD j 0 = 0 := by
  rw [List.getD_eq_getElem?_getD, List.getElem?_replicate]; split <;> rfl
theorem emod_ediv (t : Int) : t % 10000 + 10000 * (t / 10000) = t := by omega

/-- comparing -/
def cmpI (x y : Nat) : Int := if x < y then -1 else if x = y then 0 else 1
theorem cmp_lt {xs ys : List Int} {i : Nat} (okx : Ok xs) (oky : Ok ys) (hl : xs.length = ys.length) (hi : i < xs.length) (hd : xs.drop (i + 1) = ys.drop (i + 1)) (lt : xs.getD i 0 < ys.getD i 0) : vl xs < vl ys := by
  rw [vl_split xs i (by omega), vl_split ys i (by omega), vl_drop hi, vl_drop (xs := ys) (by omega), hd]
  have h1 := vl_lt (ok_take okx i)
  rw [List.length_take, Nat.min_eq_left (by omega)] at h1
  have h2 := vl_nonneg (ok_take oky i)
  have h3 := Int.mul_le_mul_of_nonneg_left (show xs.getD i 0 + 10000 * vl (ys.drop (i + 1)) + 1 ≤ ys.getD i 0 + 10000 * vl (ys.drop (i + 1)) by omega) (Int.le_of_lt (pw_pos i))
  rw [Int.mul_add (10000 ^ i) (xs.getD i 0 + 10000 * vl (ys.drop (i + 1))) 1, Int.mul_one] at h3
  omega

/-- adding -/
structure AddJ (xs ys tot : List Int) (c : Int) (i : Nat) : Prop where
  len : tot.length = i
  ok : Ok tot
  c0 : 0 ≤ c
  c1 : c ≤ 1
  val : vl tot + 10000 ^ i * c = vl (xs.take i) + vl (ys.take i)
theorem AddJ.step {xs ys tot : List Int} {c t : Int} {i : Nat} (J : AddJ xs ys tot c i) (okx : Ok xs) (oky : Ok ys) (ht : t = c + xs.getD i 0 + ys.getD i 0) : AddJ xs ys (tot ++ [t % 10000]) (t / 10000) (i + 1) := by
  have hx := ok_getD okx i
  have hy := ok_getD oky i
  have h0 := J.c0
  have h1 := J.c1
  refine ⟨by rw [List.length_append, J.len]; rfl, ok_snoc J.ok (by omega) (by omega), by omega, by omega, ?_⟩
  rw [vl_snoc, J.len, vl_take1, vl_take1, pw_succ]
  have e : (10000 : Int) ^ i * (t % 10000) + 10000 * 10000 ^ i * (t / 10000) = 10000 ^ i * c + 10000 ^ i * xs.getD i 0 + 10000 ^ i * ys.getD i 0 := by
    rw [Int.mul_comm 10000 (10000 ^ i), Int.mul_assoc, ← Int.mul_add, emod_ediv, ht, Int.mul_add, Int.mul_add]
  have := J.val
  omega
theorem AddJ.value {x y : Nat} {tot : List Int} {c : Int} (J : AddJ (dg x) (dg y) tot c (max (dg x).length (dg y).length)) : vl tot + 10000 ^ tot.length * c = ((x + y : Nat) : Int) := by
  have := J.val
  rw [List.take_of_length_le (by omega), List.take_of_length_le (by omega), vl_dg, vl_dg] at this
  rw [J.len]; omega
theorem AddJ.fin0 {x y : Nat} {tot : List Int} {c : Int} (J : AddJ (dg x) (dg y) tot c (max (dg x).length (dg y).length)) (hc : ¬ c > 0) : tot = dg (x + y) := by
  have v := J.value
  have h0 := J.c0
  obtain rfl : c = 0 := by omega
  rw [Int.mul_zero, Int.add_zero] at v
  refine dg_of J.ok v ?_
  by_cases q : tot = []
  · exact .inl q
  · right
    have hl := J.len
    rcases Nat.le_total (dg x).length (dg y).length with m | m
    · rw [Nat.max_eq_right m] at hl
      rw [hl]
      rcases dg_norm y with e | e
      · rw [e] at hl; exact absurd (List.length_eq_zero_iff.mp (by simpa using hl)) q
      · omega
    · rw [Nat.max_eq_left m] at hl
      rw [hl]
      rcases dg_norm x with e | e
      · rw [e] at hl; exact absurd (List.length_eq_zero_iff.mp (by simpa using hl)) q
      · omega
theorem AddJ.fin1 {x y : Nat} {tot : List Int} {c : Int} (J : AddJ (dg x) (dg y) tot c (max (dg x).length (dg y).length)) (hc : c > 0) : tot ++ [c] = dg (x + y) := by
  have v := J.value
  have h1 := J.c1
  obtain rfl : c = 1 := by omega
  refine dg_of (ok_snoc J.ok (by omega) (by omega)) (by rw [vl_snoc]; exact v) (.inr ?_)
  have := vl_nonneg J.ok
  rw [List.length_append]
  simp only [List.length_cons, List.length_nil, Nat.add_sub_cancel, Nat.zero_add] at *
  omega

/-- subtracting -/
structure SubJ (xs ys rest : List Int) (c : Int) (i : Nat) : Prop where
  len : rest.length = i
  ok : Ok rest
  c0 : 0 ≤ c
  c1 : c ≤ 1
  val : vl rest - 10000 ^ i * c = vl (xs.take i) - vl (ys.take i)
theorem SubJ.step {xs ys rest : List Int} {c c' t t' : Int} {i : Nat} (J : SubJ xs ys rest c i) (okx : Ok xs) (oky : Ok ys) (ht : t = xs.getD i 0 - c - ys.getD i 0) (h : (t < 0 ∧ t' = t + 10000 ∧ c' = 1) ∨ (0 ≤ t ∧ t' = t ∧ c' = 0)) : SubJ xs ys (rest ++ [t']) c' (i + 1) := by
  have hx := ok_getD okx i
  have hy := ok_getD oky i
  have h0 := J.c0
  have h1 := J.c1
  refine ⟨by rw [List.length_append, J.len]; rfl, ok_snoc J.ok (by omega) (by omega), by omega, by omega, ?_⟩
  rw [vl_snoc, J.len, vl_take1, vl_take1, pw_succ]
  have e : (10000 : Int) ^ i * t' - 10000 * 10000 ^ i * c' = 10000 ^ i * xs.getD i 0 - 10000 ^ i * c - 10000 ^ i * ys.getD i 0 := by
    rw [Int.mul_comm 10000 (10000 ^ i), Int.mul_assoc, ← Int.mul_sub, show t' - 10000 * c' = t by omega, ht, Int.mul_sub, Int.mul_sub]
  have := J.val
  omega
theorem SubJ.fin {x y : Nat} {rest : List Int} {c : Int} (J : SubJ (dg x) (dg y) rest c (dg x).length) (h : y ≤ x) : vl rest = ((x - y : Nat) : Int) := by
  have v := J.val
  have hl := len_mono h
  rw [List.take_of_length_le (Nat.le_refl _), List.take_of_length_le hl, vl_dg, vl_dg] at v
  have h1 := vl_lt J.ok
  rw [J.len] at h1
  have h0 := J.c0
  have h2 := J.c1
  have hp := pw_pos (dg x).length
  have : c = 0 := by
    rcases (by omega : c = 0 ∨ c = 1) with e | e
    · exact e
    · rw [e, Int.mul_one] at v; omega
  rw [this, Int.mul_zero] at v
  omega

/-- by one limb -/
structure MsJ (xs pr : List Int) (d c : Int) (i : Nat) : Prop where
  len : pr.length = i
  ok : Ok pr
  c0 : 0 ≤ c
  c1 : c < d
  val : vl pr + 10000 ^ i * c = d * vl (xs.take i)
theorem MsJ.step {xs pr : List Int} {d c t : Int} {i : Nat} (J : MsJ xs pr d c i) (okx : Ok xs) (hd : d < 10000) (ht : t = xs.getD i 0 * d + c) : MsJ xs (pr ++ [t % 10000]) d (t / 10000) (i + 1) := by
  have hx := ok_getD okx i
  have h0 := J.c0
  have h1 := J.c1
  have hm0 : 0 ≤ xs.getD i 0 * d := Int.mul_nonneg hx.1 (by omega)
  have hm1 : xs.getD i 0 * d ≤ 9999 * d := Int.mul_le_mul_of_nonneg_right (by omega) (by omega)
  refine ⟨by rw [List.length_append, J.len]; rfl, ok_snoc J.ok (by omega) (by omega), by omega, by omega, ?_⟩
  rw [vl_snoc, J.len, vl_take1, pw_succ]
  have e : (10000 : Int) ^ i * (t % 10000) + 10000 * 10000 ^ i * (t / 10000) = d * (10000 ^ i * xs.getD i 0) + 10000 ^ i * c := by
    rw [Int.mul_comm 10000 (10000 ^ i), Int.mul_assoc, ← Int.mul_add, emod_ediv, ht, Int.mul_add, Int.mul_left_comm d, Int.mul_comm d]
  have := J.val
  rw [Int.mul_add]
  omega
theorem MsJ.value {x d : Nat} {pr : List Int} {c : Int} (J : MsJ (dg x) pr d c (dg x).length) : vl pr + 10000 ^ pr.length * c = ((x * d : Nat) : Int) := by
  have := J.val
  rw [List.take_of_length_le (Nat.le_refl _), vl_dg] at this
  rw [J.len, this, Int.natCast_mul, Int.mul_comm]
theorem MsJ.fin0 {x d : Nat} {pr : List Int} {c : Int} (J : MsJ (dg x) pr d c (dg x).length) (hc : ¬ c > 0) : pr = dg (x * d) := by
  have v := J.value
  have h0 := J.c0
  have h1 := J.c1
  obtain rfl : c = 0 := by omega
  rw [Int.mul_zero, Int.add_zero] at v
  refine dg_of J.ok v ?_
  rcases dg_norm x with e | e
  · left; have := J.len; rw [e] at this; exact List.length_eq_zero_iff.mp this
  · right
    rw [J.len]
    have : ((x : Nat) : Int) ≤ ((x * d : Nat) : Int) := by
      have : x * 1 ≤ x * d := Nat.mul_le_mul_left x (by omega)
      omega
    omega
theorem MsJ.fin1 {x d : Nat} {pr : List Int} {c : Int} (J : MsJ (dg x) pr d c (dg x).length) (hd : d < 10000) (hc : c > 0) : pr ++ [c] = dg (x * d) := by
  have v := J.value
  have h1 := J.c1
  refine dg_of (ok_snoc J.ok (by omega) (by omega)) (by rw [vl_snoc]; exact v) (.inr ?_)
  have := vl_nonneg J.ok
  rw [List.length_append]
  simp only [List.length_cons, List.length_nil, Nat.add_sub_cancel, Nat.zero_add]
  have h2 := Int.mul_le_mul_of_nonneg_left (show (1 : Int) ≤ c by omega) (Int.le_of_lt (pw_pos pr.length))
  omega
theorem shift_dg {x k : Nat} (h : x ≠ 0) : List.replicate k 0 ++ dg x = dg (x * 10000 ^ k) := by
  refine dg_of (ok_append.mpr ⟨ok_zeros k, ok_dg x⟩) ?_ (.inr ?_)
  · rw [vl_append, vl_zeros, vl_dg, List.length_replicate, Int.natCast_mul, Int.natCast_pow, Int.mul_comm]; simp
  · rw [List.length_append, List.length_replicate, Int.natCast_mul, Int.natCast_pow]
    rcases dg_norm x with e | e
    · exact absurd e (dg_ne h)
    · have : 0 < (dg x).length := List.length_pos_iff.mpr (dg_ne h)
      rw [show k + (dg x).length - 1 = ((dg x).length - 1) + k by omega, Int.pow_add]
      exact Int.mul_le_mul_of_nonneg_right e (Int.le_of_lt (pw_pos k))
end Mine
namespace Mine
/-- the school product: ahead of a row, within a row -/
structure RowJ (xs ys row : List Int) (i : Nat) : Prop where
  len : row.length = xs.length + ys.length
  ok : Ok row
  z : ∀ k, i + ys.length ≤ k → row.getD k 0 = 0
  val : vl row = vl (xs.take i) * vl ys
structure RowK (xs ys row : List Int) (c : Int) (i j : Nat) : Prop where
  len : row.length = xs.length + ys.length
  ok : Ok row
  c0 : 0 ≤ c
  c1 : c < 10000
  z : ∀ k, i + ys.length ≤ k → row.getD k 0 = 0
  val : vl row + 10000 ^ (i + j) * c = vl (xs.take i) * vl ys + 10000 ^ i * (xs.getD i 0 * vl (ys.take j))
theorem RowJ.start (xs ys : List Int) : RowJ xs ys (List.replicate (xs.length + ys.length) 0) 0 :=
  ⟨List.length_replicate, ok_zeros _, fun k _ => getD_zeros _ k, by rw [vl_zeros]; simp [vl]⟩
theorem RowJ.inner {xs ys row : List Int} {i : Nat} (J : RowJ xs ys row i) : RowK xs ys row 0 i 0 :=
  ⟨J.len, J.ok, by decide, by decide, J.z, by rw [J.val]; simp [vl]⟩
theorem RowK.step {xs ys row : List Int} {c t : Int} {i j : Nat} (J : RowK xs ys row c i j) (okx : Ok xs) (oky : Ok ys) (hi : i < xs.length) (hj : j < ys.length) (ht : t = row.getD (i + j) 0 + xs.getD i 0 * ys.getD j 0 + c) :
    RowK xs ys (row.set (i + j) (t % 10000)) (t / 10000) i (j + 1) := by
  have hx := ok_getD okx i
  have hy := ok_getD oky j
  have hr := ok_getD J.ok (i + j)
  have h0 := J.c0
  have h1 := J.c1
  have hm0 : 0 ≤ xs.getD i 0 * ys.getD j 0 := Int.mul_nonneg hx.1 hy.1
  have hm1 : xs.getD i 0 * ys.getD j 0 ≤ 9999 * 9999 := Int.le_trans (Int.mul_le_mul_of_nonneg_right (show xs.getD i 0 ≤ 9999 by omega) hy.1) (Int.mul_le_mul_of_nonneg_left (by omega) (by decide))
  refine ⟨by rw [List.length_set, J.len], ok_set J.ok (by omega) (by omega), by omega, by omega, fun k hk => ?_, ?_⟩
  · rw [getD_set, if_neg (by omega)]; exact J.z k hk
  · rw [vl_set (by rw [J.len]; omega), vl_take1, ← Nat.add_assoc, pw_succ, Int.mul_add (xs.getD i 0), Int.mul_add (10000 ^ i)]
    have e : (10000 : Int) ^ (i + j) * (t % 10000 - row.getD (i + j) 0) + 10000 * 10000 ^ (i + j) * (t / 10000) = 10000 ^ (i + j) * c + 10000 ^ i * (xs.getD i 0 * (10000 ^ j * ys.getD j 0)) := by
      rw [Int.mul_comm 10000 (10000 ^ (i + j)), Int.mul_assoc, ← Int.mul_add]
      rw [show t % 10000 - row.getD (i + j) 0 + 10000 * (t / 10000) = c + xs.getD i 0 * ys.getD j 0 by omega]
      rw [Int.mul_add, Int.pow_add, Int.mul_left_comm (xs.getD i 0), Int.mul_assoc (10000 ^ i) (10000 ^ j) (xs.getD i 0 * ys.getD j 0)]
    have := J.val
    omega
theorem RowK.outer {xs ys row : List Int} {c : Int} {i : Nat} (J : RowK xs ys row c i ys.length) (hi : i < xs.length) : RowJ xs ys (row.set (i + ys.length) c) (i + 1) := by
  refine ⟨by rw [List.length_set, J.len], ok_set J.ok J.c0 J.c1, fun k hk => ?_, ?_⟩
  · rw [getD_set, if_neg (by omega)]; exact J.z k (by omega)
  · rw [vl_set (by rw [J.len]; omega), J.z _ (Nat.le_refl _), vl_take1, Int.add_mul]
    have := J.val
    rw [List.take_of_length_le (Nat.le_refl _)] at this
    rw [Int.sub_zero, this, Int.mul_assoc]
theorem RowJ.fin {x y : Nat} {row : List Int} (J : RowJ (dg x) (dg y) row (dg x).length) : vl row = ((x * y : Nat) : Int) := by
  have := J.val
  rw [List.take_of_length_le (Nat.le_refl _), vl_dg, vl_dg] at this
  rw [this, Int.natCast_mul]

/-- division limb by limb from above; p: how many are left -/
structure DivJ (xs q : List Int) (d r : Int) (p : Nat) : Prop where
  len : q.length = xs.length
  ok : Ok q
  r0 : 0 ≤ r
  r1 : r < d
  z : ∀ k, k < p → q.getD k 0 = 0
  val : 10000 ^ p * vl (xs.drop p) = vl q * d + 10000 ^ p * r
theorem DivJ.start (xs : List Int) {d : Int} (hd : 0 < d) : DivJ xs (List.replicate xs.length 0) d 0 xs.length :=
  ⟨List.length_replicate, ok_zeros _, by decide, hd, fun k _ => getD_zeros _ k, by rw [vl_zeros, List.drop_of_length_le (Nat.le_refl _)]; simp [vl]⟩
theorem DivJ.step {xs q : List Int} {d r t : Int} {i : Nat} (J : DivJ xs q d r (i + 1)) (okx : Ok xs) (hi : i < xs.length) (ht : t = r * 10000 + xs.getD i 0) : DivJ xs (q.set i (t / d)) d (t % d) i := by
  have hx := ok_getD okx i
  have h0 := J.r0
  have h1 := J.r1
  have hd : 0 < d := by omega
  have t0 : 0 ≤ t := by omega
  have t1 : t < d * 10000 := by
    have : (r + 1) * 10000 ≤ d * 10000 := Int.mul_le_mul_of_nonneg_right (by omega) (by decide)
    omega
  have q0 : 0 ≤ t / d := Int.ediv_nonneg t0 (by omega)
  have q1 : t / d < 10000 := Int.ediv_lt_of_lt_mul hd (by rw [Int.mul_comm]; exact t1)
  refine ⟨by rw [List.length_set, J.len], ok_set J.ok q0 q1, Int.emod_nonneg t (by omega), Int.emod_lt_of_pos t hd, fun k hk => ?_, ?_⟩
  · rw [getD_set, if_neg (by omega)]; exact J.z k (by omega)
  · rw [vl_set (by rw [J.len]; exact hi), J.z i (by omega), Int.sub_zero, vl_drop hi, Int.mul_add, Int.add_mul]
    have e : (10000 : Int) ^ i * (10000 * vl (xs.drop (i + 1))) = vl q * d + 10000 ^ i * (10000 * r) := by
      rw [← Int.mul_assoc, ← Int.mul_assoc, Int.mul_comm (10000 ^ i) 10000, ← pw_succ]; exact J.val
    have e2 : (10000 : Int) ^ i * (t / d) * d + 10000 ^ i * (t % d) = 10000 ^ i * xs.getD i 0 + 10000 ^ i * (10000 * r) := by
      rw [Int.mul_assoc, ← Int.mul_add, Int.mul_comm (t / d) d, Int.mul_ediv_add_emod, ht, Int.mul_add, Int.mul_comm r 10000]; omega
    omega
theorem DivJ.fin {x d : Nat} {q : List Int} {r : Int} (J : DivJ (dg x) q d r 0) : vl q = ((x / d : Nat) : Int) ∧ r = ((x % d : Nat) : Int) := by
  have e := J.val
  rw [List.drop_zero, vl_dg] at e
  have h0 := J.r0
  have h1 := J.r1
  have hd : (d : Int) ≠ 0 := by omega
  have e' : (x : Int) = r + d * vl q := by rw [Int.mul_comm (d : Int)]; simp at e; omega
  have q1 : (x : Int) / d = vl q := by
    rw [e', Int.add_mul_ediv_left _ _ hd, Int.ediv_eq_zero_of_lt h0 h1]; omega
  have q2 : (x : Int) % d = r := by
    rw [e', Int.add_mul_emod_self_left, Int.emod_eq_of_lt h0 h1]
  exact ⟨by rw [← q1]; rfl, by rw [← q2]; rfl⟩
theorem DivJ.small {x d : Nat} {q : List Int} {r : Int} {p : Nat} (J : DivJ (dg x) q d r p) : Ok q := J.ok

/-- splitting -/
theorem split_parts {m k : Nat} (h : k ≤ (dg m).length) : vl ((dg m).take k) = ((m % 10000 ^ k : Nat) : Int) ∧ vl ((dg m).drop k) = ((m / 10000 ^ k : Nat) : Int) := by
  have e := vl_split (dg m) k h
  rw [vl_dg] at e
  have h0 := vl_nonneg (ok_take (ok_dg m) k)
  have h1 := vl_lt (ok_take (ok_dg m) k)
  rw [List.length_take, Nat.min_eq_left h] at h1
  have hp := pw_pos k
  have c : ((10000 ^ k : Nat) : Int) = 10000 ^ k := by rw [Int.natCast_pow]; rfl
  constructor
  · rw [Int.natCast_emod, c, e, Int.add_mul_emod_self_left, Int.emod_eq_of_lt h0 h1]
  · rw [Int.natCast_ediv, c, e, Int.add_mul_ediv_left _ _ (by omega), Int.ediv_eq_zero_of_lt h0 h1]; omega
theorem small_of_len {m k : Nat} (h : (dg m).length ≤ k) : m < 10000 ^ k := by
  have h1 := Int.lt_of_lt_of_le (dg_lt m) (pw_mono h)
  have c : ((10000 ^ k : Nat) : Int) = 10000 ^ k := by rw [Int.natCast_pow]; rfl
  omega
theorem split_lo (m k : Nat) : vl ((dg m).take k) = ((m % 10000 ^ k : Nat) : Int) := by
  by_cases h : k ≤ (dg m).length
  · exact (split_parts h).1
  · rw [List.take_of_length_le (by omega), vl_dg, Nat.mod_eq_of_lt (small_of_len (by omega))]
theorem split_hi (m k : Nat) : (dg m).drop k = dg (m / 10000 ^ k) := by
  by_cases h : k < (dg m).length
  · refine dg_of (ok_drop (ok_dg m) k) (split_parts (by omega)).2 (.inr ?_)
    rw [List.length_drop]
    rcases dg_norm m with e | e
    · rw [e] at h; exact absurd h (Nat.not_lt_zero _)
    · have c : ((10000 ^ k : Nat) : Int) = 10000 ^ k := by rw [Int.natCast_pow]; rfl
      rw [Int.natCast_ediv, c]
      rw [show (dg m).length - 1 = ((dg m).length - k - 1) + k by omega, Int.pow_add] at e
      exact Int.le_ediv_of_mul_le (pw_pos k) e
  · rw [List.drop_of_length_le (by omega), Nat.div_eq_of_lt (small_of_len (by omega)), dg_zero]

/-- Newton's root -/
def IsRoot (m r : Nat) : Prop := r * r ≤ m ∧ m < (r + 1) * (r + 1)
end Mine
namespace Mine
theorem limb_ge {n i : Nat} : 10000 ^ i ≤ n ↔ i < (dg n).length := by
  have c : ((10000 ^ i : Nat) : Int) = 10000 ^ i := by rw [Int.natCast_pow]; rfl
  constructor
  · intro h
    refine Decidable.byContradiction fun q => ?_
    have := small_of_len (m := n) (k := i) (by omega)
    omega
  · intro h
    rcases dg_norm n with e | e
    · rw [e] at h; exact absurd h (Nat.not_lt_zero _)
    · have := pw_mono (show i ≤ (dg n).length - 1 by omega)
      omega
theorem limb_at {n i : Nat} (h : i < (dg n).length) : (dg n).getD i 0 = ((n / 10000 ^ i % 10000 : Nat) : Int) := by
  have e := drop_getD h
  rw [split_hi] at e
  have hp : n / 10000 ^ i ≠ 0 := fun z => by rw [z, dg_zero] at e; cases e
  rw [dg_pos hp] at e
  exact (List.cons.inj e).1.symm
theorem pow3_le {B e : Nat} (hB : B ≤ 10000) (he : e ≤ 3) : B ^ e ≤ 1000000000000 := by
  have h1 : B ^ e ≤ 10000 ^ e := Nat.pow_le_pow_left hB e
  have h2 : 10000 ^ e ≤ 10000 ^ 3 := Nat.pow_le_pow_right (by decide) he
  omega
end Mine
namespace Mine
/-- the value of a row of decimal signs -/
def dv (cs : List Nat) : Nat := cs.foldl (fun acc c => acc * 10 + (c - 48)) 0
def Dig (cs : List Nat) : Prop := ∀ c ∈ cs, 48 ≤ c ∧ c ≤ 57
theorem dig_append {a b : List Nat} : Dig (a ++ b) ↔ Dig a ∧ Dig b := by
  unfold Dig; simp only [List.mem_append]
  exact ⟨fun h => ⟨fun x hx => h x (.inl hx), fun x hx => h x (.inr hx)⟩, fun h x hx => hx.elim (h.1 x) (h.2 x)⟩
/-- the text of a natural -/
def ts (n : Nat) : List Nat := (Nat.toDigits 10 n).map Char.toNat
theorem digit_code : ∀ d : Nat, d < 10 → (Nat.digitChar d).toNat = 48 + d := by decide
theorem ts_lt {n : Nat} (h : n < 10) : ts n = [48 + n] := by
  unfold ts; rw [Nat.toDigits_of_lt_base h, List.map_cons, List.map_nil, digit_code n h]
theorem ts_step {n : Nat} (h : 10 ≤ n) : ts n = ts (n / 10) ++ [48 + n % 10] := by
  have hm : n % 10 < 10 := Nat.mod_lt n (by decide)
  have t : Nat.toDigits 10 (n / 10) ++ Nat.toDigits 10 (n % 10) = Nat.toDigits 10 (10 * (n / 10) + n % 10) := Nat.toDigits_append_toDigits (by decide) (by omega) hm
  rw [Nat.div_add_mod] at t
  have := ts_lt hm
  unfold ts at this ⊢
  rw [← t, List.map_append, this]
theorem ts_ne (n : Nat) : ts n ≠ [] := by
  by_cases h : n < 10
  · rw [ts_lt h]; exact List.cons_ne_nil _ _
  · rw [ts_step (by omega)]; simp
theorem ts_dig (n : Nat) : Dig (ts n) := by
  induction n using Nat.strongRecOn with
  | ind n ih =>
    by_cases h : n < 10
    · rw [ts_lt h]; intro c hc; rw [List.mem_singleton.mp hc]; omega
    · rw [ts_step (by omega), dig_append]
      exact ⟨ih _ (by omega), fun c hc => by rw [List.mem_singleton.mp hc]; omega⟩
theorem ts_len {n : Nat} : ∀ {k : Nat}, 0 < k → n < 10 ^ k → (ts n).length ≤ k
  | 0, h, _ => absurd h (by decide)
  | 1, _, h => by rw [ts_lt (by omega)]; exact Nat.le_refl _
  | k + 2, _, h => by
    by_cases q : n < 10
    · rw [ts_lt q]; simp
    · rw [ts_step (by omega), List.length_append, List.length_singleton]
      have := ts_len (n := n / 10) (k := k + 1) (by omega) (by rw [Nat.pow_succ] at h; omega)
      omega
/-- four places -/
def p4 (r : Nat) : List Nat := [48 + r / 10 / 10 / 10, 48 + r / 10 / 10 % 10, 48 + r / 10 % 10, 48 + r % 10]
theorem ts_snoc {a d : Nat} (ha : 0 < a) (hd : d < 10) : ts (10 * a + d) = ts a ++ [48 + d] := by
  rw [ts_step (Nat.le_trans (Nat.mul_le_mul_left 10 ha) (Nat.le_add_right _ _)), Nat.mul_add_div (by decide), Nat.div_eq_of_lt hd, Nat.add_zero, Nat.mul_add_mod, Nat.mod_eq_of_lt hd]
theorem ts_p4 {q r : Nat} (hq : 0 < q) (hr : r < 10000) : ts (10000 * q + r) = ts q ++ p4 r := by
  have e : 10000 * q + r = 10 * (10 * (10 * (10 * q + r / 10 / 10 / 10) + r / 10 / 10 % 10) + r / 10 % 10) + r % 10 := by omega
  have ml : ∀ x : Nat, x % 10 < 10 := fun x => Nat.mod_lt x (by decide)
  have up : ∀ {a : Nat} (d : Nat), 0 < a → 0 < 10 * a + d := fun d h => Nat.lt_of_lt_of_le (Nat.mul_pos (by decide) h) (Nat.le_add_right _ _)
  have hd : r / 10 / 10 / 10 < 10 := by rw [Nat.div_div_eq_div_mul, Nat.div_div_eq_div_mul]; exact Nat.div_lt_of_lt_mul hr
  rw [e, ts_snoc (up _ (up _ (up _ hq))) (ml _), ts_snoc (up _ (up _ hq)) (ml _), ts_snoc (up _ hq) (ml _), ts_snoc hq hd]
  simp [p4]
theorem ts_pad {r : Nat} (hr : r < 10000) : List.replicate (4 - (ts r).length) 48 ++ ts r = p4 r := by
  have hd : r / 10 / 10 / 10 < 10 := by rw [Nat.div_div_eq_div_mul, Nat.div_div_eq_div_mul]; exact Nat.div_lt_of_lt_mul hr
  unfold p4
  by_cases h1 : r < 10
  · rw [ts_lt h1, Nat.div_eq_of_lt h1, Nat.mod_eq_of_lt h1]; rfl
  rw [ts_step (Nat.not_lt.mp h1)]
  by_cases h2 : r / 10 < 10
  · rw [ts_lt h2, Nat.div_eq_of_lt h2, Nat.mod_eq_of_lt h2]; rfl
  rw [ts_step (Nat.not_lt.mp h2)]
  by_cases h3 : r / 10 / 10 < 10
  · rw [ts_lt h3, Nat.div_eq_of_lt h3, Nat.mod_eq_of_lt h3]; rfl
  rw [ts_step (Nat.not_lt.mp h3), ts_lt hd]; rfl
/-- the text of a natural by its limbs: p places are left -/
theorem ts_limb {n p : Nat} (h : p + 1 < (dg n).length) : ts (n / 10000 ^ p) = ts (n / 10000 ^ (p + 1)) ++ p4 (n / 10000 ^ p % 10000) := by
  have h1 := limb_ge.mpr h
  have hp : 0 < 10000 ^ (p + 1) := Nat.pow_pos (by decide)
  have h2 : 0 < n / 10000 ^ (p + 1) := Nat.div_pos h1 hp
  have e : n / 10000 ^ (p + 1) = n / 10000 ^ p / 10000 := by rw [Nat.pow_succ, Nat.div_div_eq_div_mul]
  rw [← ts_p4 h2 (Nat.mod_lt _ (by decide)), e, Nat.div_add_mod]
end Mine
namespace Mine
open PySem PySem.Calls PyProof.Rows

/-- a state: the base state with a heap and a count of tokens -/
abbrev St (b : Shared) (h : Heap) (t : Nat) : Shared := { b with heap := h, toks := t }
abbrev Stays (h h' : Heap) : Prop := ∀ b o, h.get? b = some o → h'.get? b = some o

/-- what is known of an object -/
inductive Kd where
  | kI (ns : List Int)
  | kP (ns : List Int)
  | kE (vs : List Value)
  | kT (vs : List Value)
  | kS (l : List (Str × Tok))
  | kR (o : Obj)
  | kD (d : Data)
def KdAt (o : Obj) : Kd → Prop
  | .kI ns => ∃ vs n, o.cls = .type "list" ∧ o.data = .seq vs n ∧ IntsAre vs.toList ns
  | .kP ns => ∃ vs n, o.cls = .type "list" ∧ o.dict = none ∧ o.data = .seq vs n ∧ IntsAre vs.toList ns
  | .kE vs => ∃ n, o = { cls := .type "list", dict := none, data := .seq vs.toArray n, slots := #[] }
  | .kT vs => ∃ n, o.cls = .type "tuple" ∧ o.data = .seq vs.toArray n
  | .kS l => ∃ n, o.cls = .type "list" ∧ o.dict = none ∧ o.data = .seq (strValues l).toArray n
  | .kR o' => o = o' ∧ ∀ es n, o.data ≠ .dict es n
  | .kD d => o.data = d ∧ ∃ es n, d = .dict es n
def Is (h : Heap) (a : Addr) (K : Kd) : Prop := ∃ o, h.get? a = some o ∧ KdAt o K
theorem Is.at {h h' : Heap} {a : Addr} {K : Kd} (x : Is h a K) (e : ∀ o, h.get? a = some o → h'.get? a = some o) : Is h' a K :=
  let ⟨o, ho, r⟩ := x; ⟨o, e o ho, r⟩
theorem Is.keeps {h h' : Heap} {a : Addr} {K : Kd} (x : Is h a K) (e : Stays h h') : Is h' a K := x.at fun o => e a o
theorem Is.pl_ints {h : Heap} {a : Addr} {ns : List Int} (x : Is h a (.kP ns)) : Is h a (.kI ns) :=
  let ⟨o, ho, vs, n, c, _, d, i⟩ := x; ⟨o, ho, vs, n, c, d, i⟩
theorem Is.ex_pl {h : Heap} {a : Addr} {vs : List Value} {ns : List Int} (x : Is h a (.kE vs)) (i : IntsAre vs ns) : Is h a (.kP ns) := by
  obtain ⟨o, ho, n, rfl⟩ := x
  exact ⟨_, ho, vs.toArray, n, rfl, rfl, rfl, by simpa using i⟩
theorem Is.list {h : Heap} {a : Addr} {ns : List Int} (x : Is h a (.kI ns)) : ∃ vs : List Value, h.IsList a vs.toArray ∧ IntsAre vs ns :=
  let ⟨o, ho, vs, n, c, d, i⟩ := x; ⟨vs.toList, ⟨o, ho, c, n, by rw [d]⟩, i⟩
theorem Is.plain {h : Heap} {a : Addr} {ns : List Int} (x : Is h a (.kP ns)) : ∃ vs : List Value, PlainL h a vs.toArray ∧ IntsAre vs ns :=
  let ⟨o, ho, vs, n, c, dn, d, i⟩ := x; ⟨vs.toList, ⟨o, n, ho, c, dn, by rw [d]⟩, i⟩
theorem Is.tuple {h : Heap} {a : Addr} {vs : List Value} (x : Is h a (.kT vs)) : h.IsTuple a vs.toArray :=
  let ⟨o, ho, n, c, d⟩ := x; ⟨o, ho, c, n, d⟩
theorem Is.ofList {h : Heap} {a : Addr} {vs : Array Value} {ns : List Int} (x : h.IsList a vs) (i : IntsAre vs.toList ns) : Is h a (.kI ns) :=
  let ⟨o, ho, c, n, d⟩ := x; ⟨o, ho, vs, n, c, d, i⟩
theorem Is.ofPlain {h : Heap} {a : Addr} {vs : Array Value} {ns : List Int} (x : PlainL h a vs) (i : IntsAre vs.toList ns) : Is h a (.kP ns) :=
  let ⟨o, n, ho, c, dn, d⟩ := x; ⟨o, ho, vs, n, c, dn, d, i⟩

/-- a def of the text by its place -/
def defAt (p : Program) (i : Nat) : Option (Str × Arguments × List Stmt × Scope) :=
  match p.main.body[i]? with
  | some (.FunctionDef name args body _ _ _ scope _ _ _) => some (name, args, body, scope)
  | _ => none
def FnAt (mg : Str → Option Value) (h : Heap) (d : Str × Arguments × List Stmt × Scope) : Prop :=
  ∃ a o pm code doc, mg d.1 = some (.ref a) ∧ h.get? a = some o ∧ o.data = .func (docDef d.1 d.2.1 d.2.2.1 d.2.2.2 pm code doc) ∧ h.CodeRec code d.1
/-- the text's globals -/
structure Gl (p : Program) (bn : List Str) (tabs : List (Str × List Int)) (stabs : List (Str × List Str)) (mg mb : Str → Option Value) (h : Heap) : Prop where
  g : h.Ns mainGlobals mg
  b : h.Ns builtinsNs mb
  bi : ∀ x : Str, x ≠ "__name__" → mb x = bootBuiltins x
  nolimit : h.NoLimit
  fn : ∀ i d, defAt p i = some d → FnAt mg h d
  base : ∃ t, mg "BASE" = some (.int 10000 t)
  free : ∀ x ∈ bn, mg x = none
  tab : ∀ q ∈ tabs, ∃ a vs, mg q.1 = some (.ref a) ∧ Is h a (.kT vs) ∧ IntsAre vs q.2
  stab : ∀ q ∈ stabs, ∃ a vs, mg q.1 = some (.ref a) ∧ Is h a (.kT vs) ∧ StrsAre vs q.2
theorem Gl.keeps {p : Program} {bn : List Str} {tabs : List (Str × List Int)} {stabs : List (Str × List Str)} {mg mb : Str → Option Value} {h h' : Heap} (G : Gl p bn tabs stabs mg mb h) (k : Stays h h') : Gl p bn tabs stabs mg mb h' where
  g := G.g.keeps k
  b := G.b.keeps k
  bi := G.bi
  nolimit := G.nolimit.keeps k
  fn := fun i d e => let ⟨a, o, pm, code, doc, h1, h2, h3, h4⟩ := G.fn i d e; ⟨a, o, pm, code, doc, h1, k _ _ h2, h3, h4.keeps k⟩
  base := G.base
  free := G.free
  tab := fun q hq => let ⟨a, vs, h1, h2, h3⟩ := G.tab q hq; ⟨a, vs, h1, h2.keeps k, h3⟩
  stab := fun q hq => let ⟨a, vs, h1, h2, h3⟩ := G.stab q hq; ⟨a, vs, h1, h2.keeps k, h3⟩

/-- what is fixed for a law -/
structure Wd where
  p : Program
  bn : List Str
  tabs : List (Str × List Int)
  stabs : List (Str × List Str)
  mg : Str → Option Value
  mb : Str → Option Value
abbrev Wd.G (W : Wd) (h : Heap) : Prop := Gl W.p W.bn W.tabs W.stabs W.mg W.mb h

def Knows (mm : Str → Option Value) (m : List (Str × Value)) : Prop := ∀ x v, m.lookup x = some v → mm x = some v
theorem Knows.put {mm : Str → Option Value} {m : List (Str × Value)} (k : Knows mm m) (x : Str) (v : Value) : Knows (fun y => if y = x then some v else mm y) ((x, v) :: m) := by
  intro y u e
  rw [List.lookup_cons] at e
  by_cases q : y = x
  · subst q; simpa using e
  · have : (y == x) = false := by simpa using q
    rw [this] at e
    simp only [if_neg q]; exact k y u e
def Sub : List (Str × Value) → List (Str × Value) → Prop
  | [], _ => True
  | (x, v) :: r, m => m.lookup x = some v ∧ Sub r m
theorem Sub.look : ∀ {m' m : List (Str × Value)}, Sub m' m → ∀ {x : Str} {v : Value}, m'.lookup x = some v → m.lookup x = some v
  | [], _, _, _, _, e => by cases e
  | (y, u) :: r, m, ⟨h1, h2⟩, x, v, e => by
    rw [List.lookup_cons] at e
    cases q : x == y with
    | true => rw [q] at e; rw [eq_of_beq q]; simpa using h1.trans (by simpa using e)
    | false => rw [q] at e; exact h2.look e
theorem Knows.sub {mm : Str → Option Value} {m m' : List (Str × Value)} (k : Knows mm m) (s : Sub m' m) : Knows mm m' := fun x v e => k x v (s.look e)

/-- an entry: where, what, and whether it is new (not in the base) -/
abbrev Ent := Addr × Kd × Bool
/-- new, or known in the base already -/
def Home (h₀ : Heap) (q : Ent) : Prop := match q.2.2 with
  | true => h₀.get? q.1 = none
  | false => Is h₀ q.1 q.2.1
/-- the frame: its base, its locals, the one list it changes, what it knows -/
structure Fm (W : Wd) (h₀ : Heap) (L : Addr) (dl : Option (Addr × Kd)) (h : Heap) (m : List (Str × Value)) (led : List Ent) : Prop where
  gl : W.G h₀
  ns : ∃ mm, h.Ns L mm ∧ Knows mm m
  keep : Stays h₀ h
  above : h₀.objs.size ≤ L
  own : ∀ d, dl = some d → h₀.get? d.1 = none ∧ d.1 ≠ L ∧ Is h d.1 d.2
  objs : ∀ q ∈ led, Is h q.1 q.2.1 ∧ q.1 ≠ L ∧ (∀ d, dl = some d → q.1 ≠ d.1) ∧ Home h₀ q

section
variable {W : Wd} {h₀ h h' : Heap} {L : Addr} {dl : Option (Addr × Kd)} {m m' : List (Str × Value)} {led led' : List Ent}
theorem Fm.wk (F : Fm W h₀ L dl h m led) (s : Sub m' m) (t : ∀ q ∈ led', q ∈ led) : Fm W h₀ L dl h m' led' :=
  ⟨F.gl, let ⟨mm, a, b⟩ := F.ns; ⟨mm, a, b.sub s⟩, F.keep, F.above, F.own, fun q hq => F.objs q (t q hq)⟩
theorem Fm.wkl (F : Fm W h₀ L dl h m led) (t : ∀ q ∈ led', q ∈ led) : Fm W h₀ L dl h m led' := ⟨F.gl, F.ns, F.keep, F.above, F.own, fun q hq => F.objs q (t q hq)⟩
theorem Fm.fresh (F : Fm W h₀ L dl h m led) : h₀.get? L = none := by
  cases e : h₀.get? L with
  | none => rfl
  | some o => exact absurd (Heap.lt_size e) (Nat.not_lt.mpr F.above)
theorem Fm.glob (F : Fm W h₀ L dl h m led) : W.G h := F.gl.keeps F.keep
theorem Fm.lget (F : Fm W h₀ L dl h m led) : ∃ o, h.get? L = some o := let ⟨_, ⟨o, _, _, e, _⟩, _⟩ := F.ns; ⟨o, e⟩
theorem none_of {h h' : Heap} {r : Addr} (k : Stays h h') (n : h'.get? r = none) : h.get? r = none := by
  cases e : h.get? r with
  | none => rfl
  | some o => rw [k _ _ e] at n; cases n
/-- the heap grows: all stays -/
theorem Fm.after (F : Fm W h₀ L dl h m led) (k : Stays h h') : Fm W h₀ L dl h' m led :=
  ⟨F.gl, let ⟨mm, a, b⟩ := F.ns; ⟨mm, a.keeps k, b⟩, fun b o e => k b o (F.keep b o e), F.above, fun d e => ⟨(F.own d e).1, (F.own d e).2.1, (F.own d e).2.2.keeps k⟩,
    fun q hq => ⟨(F.objs q hq).1.keeps k, (F.objs q hq).2⟩⟩
/-- a new object -/
theorem Fm.add {r : Addr} {K : Kd} (F : Fm W h₀ L dl h m led) (k : Stays h h') (n : h.get? r = none) (i : Is h' r K) : Fm W h₀ L dl h' m ((r, K, true) :: led) :=
  let F' := F.after k
  ⟨F'.gl, F'.ns, F'.keep, F'.above, F'.own, fun q hq => by
    rcases List.mem_cons.mp hq with rfl | hq
    · refine ⟨i, fun e => ?_, fun d hd e => ?_, none_of F.keep n⟩
      · obtain ⟨o, ho⟩ := F.lget; simp only at e; rw [e, ho] at n; cases n
      · obtain ⟨o, ho, _⟩ := (F.own d hd).2.2; simp only at e; rw [e, ho] at n; cases n
    · exact F'.objs q hq⟩
/-- an object that is known already, known otherwise -/
theorem Fm.also {r : Addr} {K K' : Kd} {n : Bool} (F : Fm W h₀ L dl h m led) (q : (r, K, n) ∈ led) (i : ∀ h, Is h r K → Is h r K') : Fm W h₀ L dl h m ((r, K', n) :: led) :=
  ⟨F.gl, F.ns, F.keep, F.above, F.own, fun p hp => by
    rcases List.mem_cons.mp hp with rfl | hp
    · have O := F.objs _ q
      refine ⟨i _ O.1, O.2.1, O.2.2.1, ?_⟩
      cases n with
      | true => exact O.2.2.2
      | false => exact i _ O.2.2.2
    · exact F.objs p hp⟩
theorem Fm.has {a : Addr} {K : Kd} {n : Bool} (F : Fm W h₀ L dl h m led) (q : (a, K, n) ∈ led) : Is h a K := (F.objs _ q).1
theorem Fm.hasD {a : Addr} {K : Kd} (F : Fm W h₀ L (some (a, K)) h m led) : Is h a K := (F.own _ rfl).2.2
/-- a store into the locals -/
theorem Fm.store {x : Str} {v : Value} (F : Fm W h₀ L dl h m led) {mm : Str → Option Value} (k : Knows mm m) (n : h'.Ns L (fun y => if y = x then some v else mm y)) (s : Heap.SameBut L h h') : Fm W h₀ L dl h' ((x, v) :: m) led :=
  ⟨F.gl, ⟨_, n, k.put x v⟩, fun b o e => (s.2 b fun q => by subst q; rw [F.fresh] at e; cases e).trans (F.keep b o e), F.above,
    fun d e => ⟨(F.own d e).1, (F.own d e).2.1, (F.own d e).2.2.at fun o q => (s.2 _ (F.own d e).2.1).trans q⟩,
    fun q hq => ⟨(F.objs q hq).1.at fun o z => (s.2 _ (F.objs q hq).2.1).trans z, (F.objs q hq).2⟩⟩
/-- the list at hand is changed -/
theorem Fm.change {D : Addr} {K K' : Kd} (F : Fm W h₀ L (some (D, K)) h m led) (s : Heap.SameBut D h h') (i : Is h' D K') : Fm W h₀ L (some (D, K')) h' m led :=
  have O := F.own _ rfl
  ⟨F.gl, let ⟨mm, a, b⟩ := F.ns; ⟨mm, a.sameBut s (Ne.symm O.2.1), b⟩, fun b o e => (s.2 b fun q => by subst q; rw [O.1] at e; cases e).trans (F.keep b o e), F.above,
    fun d e => by cases e; exact ⟨O.1, O.2.1, i⟩,
    fun q hq => ⟨(F.objs q hq).1.at fun o z => (s.2 _ ((F.objs q hq).2.2.1 _ rfl)).trans z, (F.objs q hq).2.1, (fun d e => by cases e; exact (F.objs q hq).2.2.1 (D, K) rfl), (F.objs q hq).2.2.2⟩⟩
/-- the list at hand, known otherwise -/
theorem Fm.alsoD {D : Addr} {K K' : Kd} (F : Fm W h₀ L (some (D, K)) h m led) (i : Is h D K → Is h D K') : Fm W h₀ L (some (D, K')) h m led := F.change (.refl ..) (i F.hasD)
/-- a new object becomes the list that is changed -/
theorem Fm.toD {D : Addr} {K : Kd} (F : Fm W h₀ L none h m led) (k : Stays h h') (n : h.get? D = none) (i : Is h' D K) : Fm W h₀ L (some (D, K)) h' m led :=
  let F' := F.after k
  have hL : D ≠ L := fun e => by obtain ⟨o, ho⟩ := F.lget; rw [e, ho] at n; cases n
  ⟨F'.gl, F'.ns, F'.keep, F'.above, (fun d e => by cases e; exact ⟨none_of F.keep n, hL, i⟩), fun q hq => ⟨(F'.objs q hq).1, (F'.objs q hq).2.1, (fun d e => by
    cases e; intro z; obtain ⟨o, ho, _⟩ := (F.objs q hq).1; simp only at z; rw [z, n] at ho; cases ho), (F'.objs q hq).2.2.2⟩⟩
/-- the list at hand is changed no more -/
theorem Fm.unD {D : Addr} {K : Kd} (F : Fm W h₀ L (some (D, K)) h m led) : Fm W h₀ L none h m ((D, K, true) :: led) :=
  have O := F.own _ rfl
  ⟨F.gl, F.ns, F.keep, F.above, (fun _ e => nomatch e), fun q hq => by
    rcases List.mem_cons.mp hq with rfl | hq
    · exact ⟨O.2.2, O.2.1, (fun _ e => nomatch e), O.1⟩
    · exact ⟨(F.objs q hq).1, (F.objs q hq).2.1, (fun _ e => nomatch e), (F.objs q hq).2.2.2⟩⟩
/-- back from a call: what the callee made -/
theorem Fm.back {L' : Addr} {dl' : Option (Addr × Kd)} {g : Heap} (F : Fm W h₀ L dl h m led) (F' : Fm W h L' dl' g m' led') {r : Addr} {K : Kd} (q : (r, K, true) ∈ led') : Fm W h₀ L dl g m ((r, K, true) :: led) :=
  F.add F'.keep (F'.objs _ q).2.2.2 (F'.objs _ q).1
theorem Fm.back2 {L' : Addr} {dl' : Option (Addr × Kd)} {g : Heap} (F : Fm W h₀ L dl h m led) (F' : Fm W h L' dl' g m' led') {r r' : Addr} {K K' : Kd} (q : (r, K, true) ∈ led') (q' : (r', K', true) ∈ led') : Fm W h₀ L dl g m ((r, K, true) :: (r', K', true) :: led) :=
  let G := F.back F' q
  let G' := F.back F' q'
  ⟨G.gl, G.ns, G.keep, G.above, G.own, fun p hp => by
    rcases List.mem_cons.mp hp with rfl | hp
    · exact G.objs _ (.head _)
    · exact G'.objs p hp⟩
theorem Fm.back3 {L' : Addr} {dl' : Option (Addr × Kd)} {g : Heap} (F : Fm W h₀ L dl h m led) (F' : Fm W h L' dl' g m' led') {r r' r'' : Addr} {K K' K'' : Kd} (q : (r, K, true) ∈ led') (q' : (r', K', true) ∈ led') (q'' : (r'', K'', true) ∈ led') :
    Fm W h₀ L dl g m ((r, K, true) :: (r', K', true) :: (r'', K'', true) :: led) :=
  let G := F.back F' q
  let G' := F.back2 F' q' q''
  ⟨G.gl, G.ns, G.keep, G.above, G.own, fun p hp => by
    rcases List.mem_cons.mp hp with rfl | hp
    · exact G.objs _ (.head _)
    · exact G'.objs p hp⟩
theorem Fm.back0 {L' : Addr} {dl' : Option (Addr × Kd)} {g : Heap} (F : Fm W h₀ L dl h m led) (F' : Fm W h L' dl' g m' led') : Fm W h₀ L dl g m led := F.after F'.keep
theorem led_rows {h₀ h : Heap} {L : Addr} : ∀ {led : List Ent}, (∀ q ∈ led, Is h q.1 q.2.1 ∧ q.1 ≠ L ∧ Home h₀ q) →
    ∃ news, News h₀ L h news ∧ ∀ h' : Heap, (∀ p ∈ news, h'.get? p.1 = some p.2) → Stays h₀ h' → ∀ q ∈ led, Is h' q.1 q.2.1
  | [], _ => ⟨[], News.nil, fun _ _ _ _ hq => nomatch hq⟩
  | (a, K, n) :: r, H => by
    obtain ⟨news, N, tr⟩ := led_rows fun q hq => H q (.tail _ hq)
    have Q := H _ (.head _)
    obtain ⟨o, ho, hk⟩ := Q.1
    cases n with
    | true =>
      refine ⟨(a, o) :: news, fun p hp => ?_, fun h' up st q hq => ?_⟩
      · rcases List.mem_cons.mp hp with rfl | hp
        · exact ⟨ho, Q.2.1, Q.2.2⟩
        · exact N p hp
      · rcases List.mem_cons.mp hq with rfl | hq
        · exact ⟨o, up _ (.head _), hk⟩
        · exact tr h' (fun p hp => up p (.tail _ hp)) st q hq
    | false =>
      refine ⟨news, N, fun h' up st q hq => ?_⟩
      rcases List.mem_cons.mp hq with rfl | hq
      · exact Is.keeps Q.2.2 st
      · exact tr h' up st q hq
/-- the frame as the library's rules want it -/
theorem Fm.rows (F : Fm W h₀ L dl h m led) : ∃ mm news, Fr h₀ L h mm ∧ News h₀ L h news ∧ ∀ h' extra, Fr h₀ L h' mm → News h₀ L h' (extra ++ news) → Fm W h₀ L dl h' m led := by
  obtain ⟨mm, n, k⟩ := F.ns
  obtain ⟨news, N, tr⟩ := led_rows (h₀ := h₀) (h := h) (L := L) (led := led) fun q hq => ⟨(F.objs q hq).1, (F.objs q hq).2.1, (F.objs q hq).2.2.2⟩
  cases dl with
  | none =>
    refine ⟨mm, news, ⟨n, F.keep, F.above⟩, N, fun h' extra F' N' => ⟨F.gl, ⟨mm, F'.ns, k⟩, F'.keep, F.above, (fun _ e => nomatch e), fun q hq => ⟨?_, (F.objs q hq).2⟩⟩⟩
    exact tr h' (fun p hp => (N' p (List.mem_append_right _ hp)).1) F'.keep q hq
  | some d =>
    have O := F.own d rfl
    obtain ⟨o, ho, hk⟩ := O.2.2
    refine ⟨mm, (d.1, o) :: news, ⟨n, F.keep, F.above⟩, (fun p hp => ?_), fun h' extra F' N' => ⟨F.gl, ⟨mm, F'.ns, k⟩, F'.keep, F.above, (fun d' e => ?_), fun q hq => ⟨?_, (F.objs q hq).2⟩⟩⟩
    · rcases List.mem_cons.mp hp with rfl | hp
      · exact ⟨ho, O.2.1, O.1⟩
      · exact N p hp
    · cases e; exact ⟨O.1, O.2.1, o, (N' (d.1, o) (List.mem_append_right _ (.head _))).1, hk⟩
    · exact tr h' (fun p hp => (N' p (List.mem_append_right _ (.tail _ hp))).1) F'.keep q hq
end

/-- room for calls -/
structure Rm (n : Nat) (A : Around) : Prop where
  depth : A.depth + n < 1000
  units : A.units + 3 * n + 80 < 9900
  hd : A.handled = none
theorem Rm.deeper {n : Nat} {A : Around} {env : Env} (r : Rm (n + 1) A) : Rm n (A.deeper env) :=
  ⟨by have := r.depth; show A.depth + 1 + n < 1000; omega, by have := r.units; show A.units + 3 + 3 * n + 80 < 9900; omega, r.hd⟩
theorem Rm.le {n k : Nat} {A : Around} (r : Rm n A) (h : k ≤ n) : Rm k A := ⟨by have := r.depth; omega, by have := r.units; omega, r.hd⟩
def AllIs (h : Heap) : List Ent → Prop
  | [] => True
  | q :: r => (Is h q.1 q.2.1 ∧ q.2.2 = false) ∧ AllIs h r
theorem AllIs.mem {h : Heap} {l : List Ent} (x : AllIs h l) {q : Ent} (hq : q ∈ l) : Is h q.1 q.2.1 ∧ q.2.2 = false := by
  induction l with
  | nil => cases hq
  | cons p r ih =>
    rcases List.mem_cons.mp hq with rfl | hq
    · exact x.1
    · exact ih x.2 hq
theorem new_none (h : Heap) : h.get? h.objs.size = none := by
  cases e : h.get? h.objs.size with
  | none => rfl
  | some o => exact absurd (Heap.lt_size e) (Nat.lt_irrefl _)
def Kd.notRaw : Kd → Bool
  | .kR _ => false
  | .kD _ => false
  | _ => true
theorem notRaw_cls {o : Obj} {K : Kd} (n : K.notRaw = true) (k : KdAt o K) (c : o.cls ≠ .type "list" ∧ o.cls ≠ .type "tuple") : False := by
  cases K with
  | kI ns => obtain ⟨_, _, e, _⟩ := k; exact c.1 e
  | kP ns => obtain ⟨_, _, e, _⟩ := k; exact c.1 e
  | kE vs => obtain ⟨_, e⟩ := k; exact c.1 (by rw [e])
  | kT vs => obtain ⟨_, e, _⟩ := k; exact c.2 e
  | kS l => obtain ⟨_, e, _⟩ := k; exact c.1 e
  | kR o => cases n
  | kD d => cases n
def FnRef (h : Heap) (f : Addr) (d : Str × Arguments × List Stmt × Scope) : Prop :=
  ∃ o pm code doc, h.get? f = some o ∧ o.data = .func (docDef d.1 d.2.1 d.2.2.1 d.2.2.2 pm code doc) ∧ h.CodeRec code d.1

section
variable {W : Wd} {prog : Program} {w : World} {M : Model} {A : Around} {E : Value → Shared → Prop} {b : Shared} {h₀ h : Heap} {L a : Addr} {dl : Option (Addr × Kd)} {t : Nat}
  {m : List (Str × Value)} {led : List Ent} {name : Str} {scope : Scope} {cd : Value}

theorem r_loc {x : Str} {pos : Pos} {v : Value} {Q : Value → Shared → Prop} (F : Fm W h₀ L dl h m led) (hv : m.lookup x = some v) (k : Q v (St b h t))
    (hk : scope.kind = .function := by rfl) (hl : (envOf name scope L a cd).kindOf x = some .local := by rfl) (hd : (x == ("__debug__" : Str)) = false := by decide) :
    wpAny M A (eval (.Name x pos) (envOf name scope L a cd)) Q E (St b h t) :=
  let ⟨_, n, kn⟩ := F.ns
  wpAny_Name (wpAny_loadName_local (s := St b h t) hk hl n (kn _ _ hv) k) hd
theorem r_locn {x : Str} {v : Value} {Q : Value → Shared → Prop} (F : Fm W h₀ L dl h m led) (hv : m.lookup x = some v) (k : Q v (St b h t))
    (hk : scope.kind = .function := by rfl) (hl : (envOf name scope L a cd).kindOf x = some .local := by rfl) :
    wpAny M A (loadName (envOf name scope L a cd) x) Q E (St b h t) :=
  let ⟨_, n, kn⟩ := F.ns
  wpAny_loadName_local (s := St b h t) hk hl n (kn _ _ hv) k
theorem r_store {x : Str} {v : Value} {Q : Unit → Shared → Prop} (F : Fm W h₀ L dl h m led) (k : ∀ h' t', Fm W h₀ L dl h' ((x, v) :: m) led → Q () (St b h' t'))
    (hk : scope.kind = .function := by rfl) (hl : (envOf name scope L a cd).kindOf x = some .local := by rfl) :
    wpAny M A (storeName (envOf name scope L a cd) x v) Q E (St b h t) :=
  let ⟨_, n, kn⟩ := F.ns
  wpAny_storeName_local (s := St b h t) hl n (fun h' hn hs => k h' _ (F.store kn hn hs))
    (by show (scope.kind == .class || (scope.kind == .module && L != mainGlobals)) = false; rw [hk]; rfl)
theorem r_fn {x : Str} {pos : Pos} {Q : Value → Shared → Prop} (F : Fm W h₀ L dl h m led) (i : Nat) {d : Str × Arguments × List Stmt × Scope} (hd : defAt W.p i = some d) (hx : d.1 = x) (k : ∀ f, FnRef h₀ f d → Q (.ref f) (St b h t))
    (hk : scope.kind = .function := by rfl) (hl : (envOf name scope L a cd).kindOf x = some .globalImplicit := by rfl) (hn : (x == ("__debug__" : Str)) = false := by decide) :
    wpAny M A (eval (.Name x pos) (envOf name scope L a cd)) Q E (St b h t) :=
  let ⟨f, o, pm, code, doc, h1, h2, h3, h4⟩ := F.gl.fn i d hd
  Name_function_global hk hl (loadGlobal_global (s := St b h t) (env := envOf name scope L a cd) F.glob.g (hx ▸ h1) (k f ⟨o, pm, code, doc, h2, h3, h4⟩)) hn
theorem r_base {pos : Pos} {Q : Value → Shared → Prop} (F : Fm W h₀ L dl h m led) (k : ∀ u, Q (.int 10000 u) (St b h t))
    (hk : scope.kind = .function := by rfl) (hl : (envOf name scope L a cd).kindOf "BASE" = some .globalImplicit := by rfl) :
    wpAny M A (eval (.Name "BASE" pos) (envOf name scope L a cd)) Q E (St b h t) :=
  let ⟨u, hu⟩ := F.gl.base
  Name_function_global hk hl (loadGlobal_global (s := St b h t) (env := envOf name scope L a cd) F.glob.g hu (k u))
theorem r_bi {x : Str} {pos : Pos} {v : Value} {Q : Value → Shared → Prop} (F : Fm W h₀ L dl h m led) (hx : x ∈ W.bn) (hv : bootBuiltins x = some v) (k : Q v (St b h t)) (hne : x ≠ "__name__" := by decide)
    (hk : scope.kind = .function := by rfl) (hl : (envOf name scope L a cd).kindOf x = some .globalImplicit := by rfl) (hn : (x == ("__debug__" : Str)) = false := by decide) :
    wpAny M A (eval (.Name x pos) (envOf name scope L a cd)) Q E (St b h t) :=
  Name_function_global hk hl (loadGlobal_builtin (s := St b h t) (env := envOf name scope L a cd) F.glob.g (F.gl.free x hx) F.glob.b ((F.gl.bi x hne).trans hv) k) hn
theorem r_tab {x : Str} {pos : Pos} {ns : List Int} {Q : Value → Shared → Prop} (F : Fm W h₀ L dl h m led) (hx : (x, ns) ∈ W.tabs) (k : ∀ r vs, Is h r (.kT vs) → IntsAre vs ns → Q (.ref r) (St b h t))
    (hk : scope.kind = .function := by rfl) (hl : (envOf name scope L a cd).kindOf x = some .globalImplicit := by rfl) (hn : (x == ("__debug__" : Str)) = false := by decide) :
    wpAny M A (eval (.Name x pos) (envOf name scope L a cd)) Q E (St b h t) :=
  let ⟨r, vs, h1, h2, h3⟩ := F.glob.tab _ hx
  Name_function_global hk hl (loadGlobal_global (s := St b h t) (env := envOf name scope L a cd) F.glob.g h1 (k r vs h2 h3)) hn

/-- a call of a def of the text -/
theorem r_call {x : Str} {e : Expr} {rest : List Expr} {pos pos' : Pos} {Q : Value → Shared → Prop} (F : Fm W h₀ L dl h m led) (i : Nat) {d : Str × Arguments × List Stmt × Scope} (hd : defAt W.p i = some d) (hx : d.1 = x)
    (k : ∀ f, FnRef h₀ f d → wpAny M A (spliced (backTo pos (starEach (e :: rest) (envOf name scope L a cd)))) (fun vs s₁ => Stays h₀ s₁.heap ∧ wpAny M A (call (.ref f) vs) Q E s₁) E (St b h t))
    (he : starEach (e :: rest) (envOf name scope L a cd) = (false, eval e (envOf name scope L a cd)) :: starEach rest (envOf name scope L a cd) := by rfl)
    (he2 : eval (.Call (.Name x pos') (e :: rest) [] pos) (envOf name scope L a cd) = (do callWith pos (← eval (.Name x pos') (envOf name scope L a cd)) [] (backTo pos (starEach (e :: rest) (envOf name scope L a cd))) (backToKw pos (keywordEach [] (envOf name scope L a cd)))) := by rfl)
    (hk : scope.kind = .function := by rfl) (hl : (envOf name scope L a cd).kindOf x = some .globalImplicit := by rfl) (hn : (x == ("__debug__" : Str)) = false := by decide) :
    wpAny M A (eval (.Call (.Name x pos') (e :: rest) [] pos) (envOf name scope L a cd)) Q E (St b h t) := by
  refine Call_ (r_fn F i hd hx (fun f hf => ?_) hk hl hn) he2
  obtain ⟨o, pm, code, doc, h2, h3, h4⟩ := id hf
  exact callWith_def h3 (wpAny_mono (k f hf) (fun vs s₁ q => ⟨q.1 _ _ h2, q.2⟩) fun _ _ q => q) he

/-- a def is entered -/
theorem r_enter {f : Addr} {nm : Str} {ps : Arguments} {bd : List Stmt} {sc : Scope} {vals : List Value} {Q : Value → Shared → Prop} (F : Fm W h₀ L dl h m led) (hf : FnRef h₀ f (nm, ps, bd, sc)) (hA : Rm 1 A)
    (binds : List (Str × Value)) (led₀ : List Ent) (hled : AllIs h led₀)
    (k : ∀ L' h₁ t₁ code, Fm W h L' none h₁ binds led₀ →
      wpAny (model prog w) (A.deeper (envOf nm sc L' f code)) (execs bd (envOf nm sc L' f code)) (fun fl s' => Q (match fl with | .ret v => v | _ => .none) s') (fun _ _ => False) (St b h₁ t₁))
    (hsub : Sub binds binds.reverse := by repeat (first | exact True.intro | refine ⟨rfl, ?_⟩))
    (hbind : ∀ pm code doc, bindArgs (docDef nm ps bd sc pm code doc) ⟨vals, []⟩ = pure binds := by intro _ _ _; rfl)
    (hloc : ∀ x ∈ binds, sc.names.lookup x.1 = some .local := by exact locs rfl)
    (hco : sc.isCoroutine = false := by rfl) (hgen : sc.isGenerator = false := by rfl) (hk : sc.kind = .function := by rfl)
    (hcell : ∀ x ∈ sc.names, x.2 ≠ .cell := by decide) :
    wpAny (model prog w) A (call (.ref f) vals) Q E (St b h t) := by
  obtain ⟨o, pm, code, doc, h2, h3, h4⟩ := hf
  have hfr : h.get? h.objs.size = none := new_none h
  refine wpAny_call (call_plain_ret (s := St b h t) (by have := hA.depth; show A.depth < 1000; omega) (F.keep _ _ h2) h3 F.glob.nolimit (h4.keeps F.keep) (hbind pm code doc) hloc (fun h₁ F₁ => ?_) hco hgen hk hcell)
  refine wpAny_mono (k _ h₁ _ code ⟨F.glob, ⟨_, F₁.ns, fun x v e => hsub.look e⟩, F₁.keep, F₁.above, (fun _ e => nomatch e), fun q hq => ?_⟩) (fun _ _ q => q) fun _ _ q => q
  have hi := hled.mem hq
  refine ⟨hi.1.keeps F₁.keep, fun e => ?_, (fun _ e => nomatch e), by unfold Home; rw [hi.2]; exact hi.1⟩
  obtain ⟨o', ho', _⟩ := hi.1
  rw [e] at ho'
  rw [hfr] at ho'; cases ho'

/-- what a turn of a loop must come to -/
def TurnPost {σ : Type} (W : Wd) (h₀ : Heap) (L : Addr) (b : Shared) (dlO : σ → Option (Addr × Kd)) (mO : σ → List (Str × Value)) (ledO : σ → List Ent) (J : σ → Prop) (Q : Flow → Shared → Prop) (f : Flow) (s' : Shared) : Prop :=
  match f with
  | .ret v => Q (.ret v) s'
  | .brk => Q .next s'
  | _ => ∃ c h' t', s' = St b h' t' ∧ Fm W h₀ L (dlO c) h' (mO c) (ledO c) ∧ J c

theorem r_while {σ : Type} {test : Expr} {body : List Stmt} {pos : Pos} {Q : Flow → Shared → Prop} (dlO : σ → Option (Addr × Kd)) (mO : σ → List (Str × Value)) (ledO : σ → List Ent) (J : σ → Prop) (μ : σ → Nat) (c₀ : σ)
    (F : Fm W h₀ L (dlO c₀) h (mO c₀) (ledO c₀)) (hJ : J c₀)
    (turn : ∀ c h t (E' : Value → Shared → Prop), J c → Fm W h₀ L (dlO c) h (mO c) (ledO c) →
      wpAny (model prog w) A (isTrue test (envOf name scope L a cd) (eval test (envOf name scope L a cd))) (fun bv s₂ => if bv then
        wpAny (model prog w) A (execs body (envOf name scope L a cd)) (TurnPost W h₀ L b dlO mO ledO (fun c' => J c' ∧ μ c' < μ c) Q) E' s₂ else Q .next s₂) E' (St b h t)) :
    wpAny (model prog w) A (exec (.While test body [] pos) (envOf name scope L a cd)) Q E (St b h t) := by
  refine wpAny_While (codeAny_whileLoop (fun n s' => ∃ c h' t', n = μ c ∧ s' = St b h' t' ∧ Fm W h₀ L (dlO c) h' (mO c) (ledO c) ∧ J c) ?_ (μ c₀) ⟨c₀, h, t, rfl, rfl, F, hJ⟩)
  rintro n s' ⟨c, h', t', rfl, rfl, F', hJ'⟩
  refine wpAny_mono (turn c h' t' _ hJ' F') (fun bv s₂ q => ?_) fun _ _ q => q
  cases bv with
  | false => simp only [Bool.false_eq_true, if_false] at q ⊢; exact wpAny_execs_nil q
  | true =>
    simp only [if_true] at q ⊢
    refine wpAny_mono q (fun f s₃ q => ?_) fun _ _ q => q
    cases f with
    | ret v => exact q
    | brk => exact q
    | next => obtain ⟨c', h'', t'', rfl, F'', hJ'', hm⟩ := q; exact ⟨μ c', hm, c', h'', t'', rfl, rfl, F'', hJ''⟩
    | cont => obtain ⟨c', h'', t'', rfl, F'', hJ'', hm⟩ := q; exact ⟨μ c', hm, c', h'', t'', rfl, rfl, F'', hJ''⟩

/-- a loop along an iterator -/
theorem r_walkE {σ : Type} {target : Expr} {body : List Stmt} {R : Result → Shared → Prop} {I ax : Addr} {fp : List Addr} {n : Nat} {P : Nat → Value → Prop} {St' : Nat → Heap → Prop} {oI oX : Obj} {nX : Bool}
    (Wk : Walks prog w A I fp [I] n P St') (hfp : ∀ c ∈ fp, c = I ∨ c = ax) (hax : ax ≠ I)
    (dlO : σ → Option (Addr × Kd)) (mO : σ → List (Str × Value)) (newO : σ → List Ent) (J : Nat → σ → Prop) (c₀ : σ)
    (F : Fm W h₀ L (dlO c₀) h (mO c₀) (newO c₀ ++ led)) (hst : St' 0 h) (hI : h₀.get? I = none) (hIL : I ≠ L) (hID : ∀ d, dlO c₀ = some d → I ≠ d.1) (hIo : h.get? I = some oI) (hXo : h.get? ax = some oX) (hXL : ax ≠ L) (hXD : ∀ d, dlO c₀ = some d → ax ≠ d.1) (hXH : Home h₀ (ax, .kR oX, nX))
    (hcls : oI.cls ≠ .type "list" ∧ oI.cls ≠ .type "tuple") (hStc : ∀ i h o, St' i h → h.get? I = some o → o.cls = oI.cls) (hStg : ∀ i h, St' i h → ∃ o, h.get? I = some o ∧ ∀ es n, o.data ≠ .dict es n) (hXd : ∀ es n, oX.data ≠ .dict es n)
    (hled : ∀ q ∈ led, q.1 ≠ I) (hnew : ∀ c, ∀ q ∈ newO c, q.2.1.notRaw = true) (hJ : J 0 c₀)
    (E' : Value → Shared → Prop) (hE' : ∀ e s', E' e s' → notedBy (model prog w) A (envOf name scope L a cd) (fun e s' => R (.error e) s') e s')
    (turn : ∀ i c v h t o, i < n → P i v → J i c → Fm W h₀ L (dlO c) h (mO c) ((I, .kR o, true) :: (ax, .kR oX, nX) :: (newO c ++ led)) →
      wpAny (model prog w) A (assign target (envOf name scope L a cd) v) (fun _ s₂ => wpAny (model prog w) A (execs body (envOf name scope L a cd))
        (TurnPost W h₀ L b dlO mO (fun c' => (I, .kR o, true) :: (ax, .kR oX, nX) :: (newO c' ++ led)) (J (i + 1)) (fun f s' => R (.ok f) s')) E' s₂) E' (St b h t))
    (done : ∀ c h t, J n c → Fm W h₀ L (dlO c) h (mO c) (newO c ++ led) → R (.ok .next) (St b h t))
    (hgo : ∀ i v (s' : Shared) (Q' : Unit → Shared → Prop) (E' : Value → Shared → Prop), St' i s'.heap → Q' () s' → wpAny (model prog w) A (letOwnedTupleGo target (.ref I) v) Q' E' s') :
    codeAny (model prog w) A (.forLoop target (.ref I) body [] (envOf name scope L a cd)) R (St b h t) := by
  refine codeAny_forLoop_any (fun k s' => ∃ i c h' t', k = n + 1 - i ∧ i ≤ n ∧ s' = St b h' t' ∧ Fm W h₀ L (dlO c) h' (mO c) (newO c ++ led) ∧ J i c ∧ St' i h' ∧ (∀ d, dlO c = some d → I ≠ d.1) ∧ h'.get? ax = some oX ∧ (∀ d, dlO c = some d → ax ≠ d.1)) ?_ (n + 1)
    ⟨0, c₀, h, t, rfl, Nat.zero_le _, rfl, F, hJ, hst, hID, hXo, hXD⟩
  rintro k s' ⟨i, c, h', t', rfl, hi, rfl, F', hJ', hst', hD, hX', hXD'⟩
  have off : ∀ q ∈ newO c ++ led, q.1 ≠ I := fun q hq e => by
    rcases List.mem_append.mp hq with hq' | hq'
    · obtain ⟨o, ho, hk⟩ := (F'.objs q hq).1
      rw [e] at ho
      have hc := hStc _ _ _ hst' ho
      exact notRaw_cls (hnew c q hq') hk (hc ▸ hcls)
    · exact hled q hq' e
  have mv : ∀ {h₁ : Heap}, (∀ b o, b ∉ [I] → h'.get? b = some o → h₁.get? b = some o) → Fm W h₀ L (dlO c) h₁ (mO c) (newO c ++ led) := fun {h₁} hk =>
    have up : ∀ z, z ≠ I → ∀ o, h'.get? z = some o → h₁.get? z = some o := fun z hz o e => hk z o (fun q => hz (List.mem_singleton.mp q)) e
    ⟨F'.gl, (let ⟨mm, x, y⟩ := F'.ns; ⟨mm, x.at' fun o e => up L (Ne.symm hIL) o e, y⟩), (fun z o e => up z (fun q => by rw [q, hI] at e; cases e) o (F'.keep z o e)), F'.above,
      (fun d e => ⟨(F'.own d e).1, (F'.own d e).2.1, (F'.own d e).2.2.at fun o z => up _ (Ne.symm (hD d e)) o z⟩), fun q hq => ⟨(F'.objs q hq).1.at fun o z => up _ (off q hq) o z, (F'.objs q hq).2⟩⟩
  by_cases hlt : i < n
  · refine Wk.item i _ _ _ hlt hst' fun v h₁ tk₁ hP hst₁ hk₁ => ?_
    have F₁ := mv hk₁
    obtain ⟨o₁, ho₁, hd₁⟩ := hStg _ _ hst₁
    have hX₁ : h₁.get? ax = some oX := hk₁ ax oX (fun q => hax (List.mem_singleton.mp q)) hX'
    have F₂ : Fm W h₀ L (dlO c) h₁ (mO c) ((I, .kR o₁, true) :: (ax, .kR oX, nX) :: (newO c ++ led)) := ⟨F₁.gl, F₁.ns, F₁.keep, F₁.above, F₁.own, fun q hq => by
      rcases List.mem_cons.mp hq with rfl | hq
      · exact ⟨⟨o₁, ho₁, rfl, hd₁⟩, hIL, hD, hI⟩
      · rcases List.mem_cons.mp hq with rfl | hq
        · exact ⟨⟨oX, hX₁, rfl, hXd⟩, hXL, hXD', hXH⟩
        · exact F₁.objs q hq⟩
    refine hgo (i + 1) v _ _ _ hst₁ ?_
    refine wpAny_mono (turn i c v h₁ tk₁ o₁ hlt hP hJ' F₂) (fun _ s₂ q => wpAny_mono q (fun f s₃ q => ?_) hE') hE'
    have fin : (∃ c' h'' t'', s₃ = St b h'' t'' ∧ Fm W h₀ L (dlO c') h'' (mO c') ((I, .kR o₁, true) :: (ax, .kR oX, nX) :: (newO c' ++ led)) ∧ J (i + 1) c') → ∃ m, m < n + 1 - i ∧ ∃ i c h' t', m = n + 1 - i ∧ i ≤ n ∧ s₃ = St b h' t' ∧ Fm W h₀ L (dlO c) h' (mO c) (newO c ++ led) ∧ J i c ∧ St' i h' ∧ (∀ d, dlO c = some d → I ≠ d.1) ∧ h'.get? ax = some oX ∧ (∀ d, dlO c = some d → ax ≠ d.1) := by
      rintro ⟨c', h'', t'', rfl, F'', hJ''⟩
      obtain ⟨x1, hx1, e1⟩ := (F''.objs (I, .kR o₁, true) (.head _)).1
      obtain ⟨x2, hx2, e2⟩ := (F''.objs (ax, .kR oX, nX) (.tail _ (.head _))).1
      simp only [KdAt] at e1 e2
      obtain ⟨e1, _⟩ := e1
      obtain ⟨e2, _⟩ := e2
      subst e1; subst e2
      refine ⟨n + 1 - (i + 1), by omega, i + 1, c', h'', t'', rfl, hlt, rfl, F''.wkl (fun q hq => .tail _ (.tail _ hq)), hJ'', Wk.frame _ _ _ hst₁ fun z hz o e => ?_, fun d e => (F''.objs _ (.head _)).2.2.1 d e, hx2, fun d e => (F''.objs _ (.tail _ (.head _))).2.2.1 d e⟩
      rcases hfp z hz with rfl | rfl
      · rw [ho₁] at e; cases e; exact hx1
      · rw [hX₁] at e; cases e; exact hx2
    cases f with
    | ret v => exact q
    | brk => exact q
    | next => exact fin q
    | cont => exact fin q
  · have hin : i = n := by omega
    subst hin
    exact Wk.done _ _ _ hst' fun h₁ tk₁ hk₁ => wpAny_execs_nil (done c h₁ tk₁ hJ' (mv hk₁))
theorem r_walk {σ : Type} {target : Expr} {body : List Stmt} {R : Result → Shared → Prop} {I ax : Addr} {fp : List Addr} {n : Nat} {P : Nat → Value → Prop} {St' : Nat → Heap → Prop} {oI oX : Obj} {nX : Bool}
    (Wk : Walks prog w A I fp [I] n P St') (hfp : ∀ c ∈ fp, c = I ∨ c = ax) (hax : ax ≠ I)
    (dlO : σ → Option (Addr × Kd)) (mO : σ → List (Str × Value)) (newO : σ → List Ent) (J : Nat → σ → Prop) (c₀ : σ)
    (F : Fm W h₀ L (dlO c₀) h (mO c₀) (newO c₀ ++ led)) (hst : St' 0 h) (hI : h₀.get? I = none) (hIL : I ≠ L) (hID : ∀ d, dlO c₀ = some d → I ≠ d.1) (hIo : h.get? I = some oI) (hXo : h.get? ax = some oX) (hXL : ax ≠ L) (hXD : ∀ d, dlO c₀ = some d → ax ≠ d.1) (hXH : Home h₀ (ax, .kR oX, nX))
    (hcls : oI.cls ≠ .type "list" ∧ oI.cls ≠ .type "tuple") (hStc : ∀ i h o, St' i h → h.get? I = some o → o.cls = oI.cls) (hStg : ∀ i h, St' i h → ∃ o, h.get? I = some o ∧ ∀ es n, o.data ≠ .dict es n) (hXd : ∀ es n, oX.data ≠ .dict es n)
    (hled : ∀ q ∈ led, q.1 ≠ I) (hnew : ∀ c, ∀ q ∈ newO c, q.2.1.notRaw = true) (hJ : J 0 c₀)
    (turn : ∀ i c v h t o (E' : Value → Shared → Prop), i < n → P i v → J i c → Fm W h₀ L (dlO c) h (mO c) ((I, .kR o, true) :: (ax, .kR oX, nX) :: (newO c ++ led)) →
      wpAny (model prog w) A (assign target (envOf name scope L a cd) v) (fun _ s₂ => wpAny (model prog w) A (execs body (envOf name scope L a cd))
        (TurnPost W h₀ L b dlO mO (fun c' => (I, .kR o, true) :: (ax, .kR oX, nX) :: (newO c' ++ led)) (J (i + 1)) (fun f s' => R (.ok f) s')) E' s₂) E' (St b h t))
    (done : ∀ c h t, J n c → Fm W h₀ L (dlO c) h (mO c) (newO c ++ led) → R (.ok .next) (St b h t))
    (hgo : ∀ i v (s' : Shared) (Q' : Unit → Shared → Prop) (E' : Value → Shared → Prop), St' i s'.heap → Q' () s' → wpAny (model prog w) A (letOwnedTupleGo target (.ref I) v) Q' E' s') :
    codeAny (model prog w) A (.forLoop target (.ref I) body [] (envOf name scope L a cd)) R (St b h t) :=
  r_walkE Wk hfp hax dlO mO newO J c₀ F hst hI hIL hID hIo hXo hXL hXD hXH hcls hStc hStg hXd hled hnew hJ _ (fun _ _ q => q) (fun i c v h t o => turn i c v h t o _) done hgo
end
end Mine
namespace Mine
open PySem PySem.Calls PyProof.Rows

theorem fdiv_pos {a b : Int} (h : 0 < b) : a.fdiv b = a / b := Int.fdiv_eq_ediv_of_nonneg a (by omega)
theorem fmod_pos {a b : Int} (h : 0 < b) : a.fmod b = a % b := Int.fmod_eq_emod_of_nonneg a (by omega)
theorem log2_small {y : Int} (h1 : 0 < y) (h2 : y < 10 ^ 2000) : y.natAbs.log2 < 9000 := by
  have h3 : y.natAbs ≠ 0 := by omega
  refine (Nat.log2_lt h3).mpr ?_
  have h4 : (10 : Int) ^ 2000 ≤ 2 ^ 9000 := by decide +kernel
  have h5 : y < 2 ^ 9000 := Int.lt_of_lt_of_le h2 h4
  have h6 : (y.natAbs : Int) = y := by omega
  have h7 : ((2 ^ 9000 : Nat) : Int) = 2 ^ 9000 := by rw [Int.natCast_pow]; rfl
  have h8 : (y.natAbs : Int) < ((2 ^ 9000 : Nat) : Int) := by rw [h6, h7]; exact h5
  exact Int.ofNat_lt.mp h8

section
variable {W : Wd} {prog : Program} {w : World} {M : Model} {A : Around} {E : Value → Shared → Prop} {b : Shared} {h₀ h : Heap} {L a : Addr} {dl : Option (Addr × Kd)} {t : Nat}
  {m : List (Str × Value)} {led : List Ent} {name : Str} {scope : Scope} {cd : Value} {env : Env} {i j : Int} {u₁ u₂ : Tok} {Q : Value → Shared → Prop}

theorem x_int {n : Int} {k : Nat} {pos : Pos} (q : ∀ u t', Q (.int n u) (St b h t')) : wpAny M A (eval (.Constant (.int n) k pos) env) Q E (St b h t) := wpAny_Constant_int (s := St b h t) (q _ _)
theorem x_str {x : Str} {k : Nat} {pos : Pos} (q : ∀ u t', Q (.str x u) (St b h t')) : wpAny M A (eval (.Constant (.str x) k pos) env) Q E (St b h t) := Constant_str (s := St b h t) (q _ _)
theorem x_bool {c : Bool} {k : Nat} {pos : Pos} (q : Q (.bool c) (St b h t)) : wpAny M A (eval (.Constant (.bool c) k pos) env) Q E (St b h t) := wpAny_Constant_bool q
theorem x_none {k : Nat} {pos : Pos} (q : Q .none (St b h t)) : wpAny M A (eval (.Constant .none k pos) env) Q E (St b h t) := wpAny_Constant_none q
theorem x_add (q : ∀ u t', Q (.int (i + j) u) (St b h t')) : wpAny (model prog w) A (binaryOp .Add (.int i u₁) (.int j u₂)) Q E (St b h t) := P.add_int (s := St b h t) (q _ _)
theorem x_sub (q : ∀ u t', Q (.int (i - j) u) (St b h t')) : wpAny (model prog w) A (binaryOp .Sub (.int i u₁) (.int j u₂)) Q E (St b h t) := P.sub_int (s := St b h t) (q _ _)
theorem x_iadd (q : ∀ u t', Q (.int (i + j) u) (St b h t')) : wpAny (model prog w) A (inplaceOp .Add (.int i u₁) (.int j u₂)) Q E (St b h t) := P.iadd_int (s := St b h t) (q _ _)
theorem x_isub (q : ∀ u t', Q (.int (i - j) u) (St b h t')) : wpAny (model prog w) A (inplaceOp .Sub (.int i u₁) (.int j u₂)) Q E (St b h t) := P.isub_int (s := St b h t) (q _ _)
theorem x_mul (hm : IntMulOk i j) (q : ∀ u t', Q (.int (i * j) u) (St b h t')) : wpAny (model prog w) A (binaryOp .Mult (.int i u₁) (.int j u₂)) Q E (St b h t) := P.mul_int (s := St b h t) (q _ _) hm
theorem x_div (h1 : 0 < j) (h2 : j < 1000000000000000000000000000000000000000000000000000000000000) (q : ∀ u t', Q (.int (i / j) u) (St b h t')) : wpAny (model prog w) A (binaryOp .FloorDiv (.int i u₁) (.int j u₂)) Q E (St b h t) :=
  floordiv_int (s := St b h t) (by omega) (by rw [fdiv_pos h1]; exact q _ _) (.inl (PyProof.noPylong_of_log2 (log2_small h1 (Int.lt_trans h2 (by decide +kernel)))))
theorem x_mod (h1 : 0 < j) (q : ∀ u t', Q (.int (i % j) u) (St b h t')) : wpAny (model prog w) A (binaryOp .Mod (.int i u₁) (.int j u₂)) Q E (St b h t) :=
  mod_int' (s := St b h t) (by omega) (by rw [fmod_pos h1]; exact q _ _)
theorem x_pow (h1 : 0 ≤ j) (h2 : (Builtin.Int.intBits i : Int) * j ≤ 2 ^ 27) (q : ∀ u t', Q (.int (i ^ j.toNat) u) (St b h t')) : wpAny (model prog w) A (binaryOp .Pow (.int i u₁) (.int j u₂)) Q E (St b h t) :=
  pow_int (s := St b h t) h1 h2 (q _ _)
theorem x_neg (q : ∀ u t', Q (.int (-i) u) (St b h t')) : wpAny (model prog w) A (unaryOp .USub (.int i u₁)) Q E (St b h t) := P.neg_int (s := St b h t) (q _ _)

/-- len of a list of ints -/
theorem x_len {l : Addr} {ns : List Int} (x : Is h l (.kI ns)) (hn : ns.length < 2 ^ 62) (q : ∀ u t', Q (.int (ns.length : Nat) u) (St b h t')) : wpAny (model prog w) A (call (.builtin "len") [.ref l]) Q E (St b h t) := by
  obtain ⟨vs, hl, hi⟩ := x.list
  have e : vs.toArray.size = ns.length := by simp [hi.length]
  refine call_len_list (s := St b h t) hl (by omega) ?_
  rw [e]; exact q _ _
/-- an item of a list of ints -/
theorem x_item {value slice : Expr} {l : Addr} {ns : List Int} {k : Int} {u : Tok} (x : Is h l (.kI ns)) (h0 : 0 ≤ k) (h1 : k < ns.length) (h2 : k < 2 ^ 62) (q : ∀ u, Q (.int (ns.getD k.toNat 0) u) (St b h t))
    (hs : subscripted slice false (.ref l) (.int k u) = operate [.ref l, .int k u] (getItem (.ref l) (.int k u)) := by with_unfolding_all rfl) (hg : ∀ r, letTemporaryGo value (.ref l) r = pure () := by intro _; with_unfolding_all rfl) :
    wpAny (model prog w) A (subscriptTail value slice (.ref l) (.int k u)) Q E (St b h t) := by
  obtain ⟨vs, hl, hi⟩ := x.list
  exact item_list_ints (s := St b h t) hl hi h0 h1 (by omega) q hs hg
/-- an item of a tuple of ints -/
theorem x_itemT {value slice : Expr} {l : Addr} {vs : List Value} {ns : List Int} {k : Int} {u : Tok} (x : Is h l (.kT vs)) (hi : IntsAre vs ns) (h0 : 0 ≤ k) (h1 : k < ns.length) (h2 : k < 2 ^ 62) (q : ∀ u, Q (.int (ns.getD k.toNat 0) u) (St b h t))
    (hs : subscripted slice false (.ref l) (.int k u) = operate [.ref l, .int k u] (getItem (.ref l) (.int k u)) := by with_unfolding_all rfl) :
    wpAny (model prog w) A (subscriptTail value slice (.ref l) (.int k u)) Q E (St b h t) := by
  have hlt : k.toNat < ns.length := by omega
  obtain ⟨v, hv⟩ := hi.get k.toNat (ns.getD k.toNat 0) (by simp [List.getD_eq_getElem?_getD, hlt])
  refine item_tupleT (s := St b h t) (j := k.toNat) x.tuple (by omega) (by omega) ?_ hv (q _) hs
  unfold seqIndex?
  have := hi.length
  simp only []
  split <;> first | omega | (congr 1; done) | skip
  all_goals (first | rfl | omega | (simp; omega))
/-- a written item of a tuple -/
theorem x_itemW {value slice : Expr} {l : Addr} {vs : List Value} {k : Int} {u : Tok} {n : Nat} {v : Value} (x : Is h l (.kT vs)) (hk : seqIndex? k vs.length = some n) (hv : vs[n]? = some v) (h1 : -(2 ^ 63) ≤ k) (h2 : k < 2 ^ 63) (q : Q v (St b h t))
    (hs : subscripted slice false (.ref l) (.int k u) = operate [.ref l, .int k u] (getItem (.ref l) (.int k u)) := by with_unfolding_all rfl) :
    wpAny (model prog w) A (subscriptTail value slice (.ref l) (.int k u)) Q E (St b h t) := item_tupleT (s := St b h t) x.tuple h1 h2 hk hv q hs

theorem push_stays (h : Heap) (o : Obj) : Stays h (h.push o) := fun _ _ e => Heap.get?_push_of_some _ e
theorem x_newList {vs : List Value} (F : Fm W h₀ L dl h m led) (hsz : vs.length ≤ 1000) (q : ∀ r h', Fm W h₀ L dl h' m ((r, .kE vs, true) :: led) → Q (.ref r) (St b h' t)) : wpAny M A (newList vs) Q E (St b h t) :=
  wpAny_newObj_type (s := St b h t) (q _ _ (F.add (push_stays h _) (new_none h) ⟨_, Heap.get?_push_size _ rfl, 0, rfl⟩)) (by show vs.toArray.size ≤ sizeLine; rw [List.size_toArray]; unfold sizeLine; omega)
theorem x_newListD {vs : List Value} {ns : List Int} (F : Fm W h₀ L none h m led) (hi : IntsAre vs ns) (hsz : vs.length ≤ 1000) (q : ∀ r h', Fm W h₀ L (some (r, .kP ns)) h' m led → Q (.ref r) (St b h' t)) : wpAny M A (newList vs) Q E (St b h t) :=
  wpAny_newObj_type (s := St b h t) (q _ _ (F.toD (push_stays h _) (new_none h) ⟨_, Heap.get?_push_size _ rfl, vs.toArray, 0, rfl, rfl, rfl, by simpa using hi⟩)) (by show vs.toArray.size ≤ sizeLine; rw [List.size_toArray]; unfold sizeLine; omega)
theorem x_newTuple {vs : List Value} (F : Fm W h₀ L dl h m led) (hsz : vs.length ≤ 1000) (q : ∀ r h', Fm W h₀ L dl h' m ((r, .kT vs, true) :: led) → Q (.ref r) (St b h' t)) : wpAny M A (newTuple vs) Q E (St b h t) :=
  wpAny_newObj_type (s := St b h t) (q _ _ (F.add (push_stays h _) (new_none h) ⟨_, Heap.get?_push_size _ rfl, 0, rfl, rfl⟩)) (by show vs.toArray.size ≤ sizeLine; rw [List.size_toArray]; unfold sizeLine; omega)

theorem ints_replicate (n : Nat) (v : Int) (u : Tok) : IntsAre (List.replicate n (.int v u)) (List.replicate n v) := by
  induction n with
  | zero => exact .nil
  | succ n ih => exact .cons v u ih
theorem fold_replicate (n : Nat) (x : Value) : (List.foldl (fun x1 x2 => x1 ++ x2) #[] (List.replicate n #[x])).toList = List.replicate n x := by
  have gen : ∀ (n : Nat) (acc : Array Value), (List.foldl (fun x1 x2 => x1 ++ x2) acc (List.replicate n #[x])).toList = acc.toList ++ List.replicate n x := by
    intro n
    induction n with
    | zero => intro acc; simp
    | succ n ih => intro acc; rw [List.replicate_succ, List.foldl_cons, ih]; simp [List.replicate_succ]
  simpa using gen n #[]
/-- [v] * n -/
theorem x_rep {l : Addr} {v n : Int} {u u' : Tok} (F : Fm W h₀ L dl h m led) (x : Is h l (.kE [.int v u])) (h1 : n < 10000) (hlo : -1000 ≤ n)
    (q : ∀ r h', Fm W h₀ L dl h' m ((r, .kP (List.replicate n.toNat v), true) :: led) → Q (.ref r) (St b h' t)) : wpAny (model prog w) A (binaryOp .Mult (.ref l) (.int n u')) Q E (St b h t) := by
  obtain ⟨mm, news, F', N, tr⟩ := F.rows
  obtain ⟨o, ho, k, rfl⟩ := x
  refine mul_list (s := St b h t) F' N ho (by omega) (by omega) (by simp; omega) fun h' F'' N'' => ?_
  have G := tr h' [_] F'' N''
  have hr := N'' _ (.head _)
  refine q _ _ ⟨G.gl, G.ns, G.keep, G.above, G.own, fun q hq => ?_⟩
  rcases List.mem_cons.mp hq with rfl | hq
  · refine ⟨⟨_, hr.1, _, _, rfl, rfl, rfl, ?_⟩, hr.2.1, fun d e => ?_, hr.2.2⟩
    · rw [show ([Value.int v u].toArray).isEmpty = false from rfl]
      simp only [Bool.false_eq_true, if_false]
      rw [fold_replicate]; exact ints_replicate _ _ _
    · intro z
      obtain ⟨o, ho, _⟩ := (F.own d e).2.2
      have := new_none h
      rw [← z] at ho; simp only at ho
      rw [this] at ho; cases ho
  · exact G.objs q hq
/-- the same, as the list that is changed -/
theorem x_repD {l : Addr} {v n : Int} {u u' : Tok} (F : Fm W h₀ L none h m led) (x : Is h l (.kE [.int v u])) (h1 : n < 10000) (hlo : -1000 ≤ n)
    (q : ∀ r h', Fm W h₀ L (some (r, .kP (List.replicate n.toNat v))) h' m led → Q (.ref r) (St b h' t)) : wpAny (model prog w) A (binaryOp .Mult (.ref l) (.int n u')) Q E (St b h t) := by
  obtain ⟨mm, news, F', N, tr⟩ := F.rows
  obtain ⟨o, ho, k, rfl⟩ := x
  refine mul_list (s := St b h t) F' N ho (by omega) (by omega) (by simp; omega) fun h' F'' N'' => ?_
  have G := tr h' [_] F'' N''
  have hr := N'' _ (.head _)
  refine q _ _ ⟨G.gl, G.ns, G.keep, G.above, fun d e => ?_, fun q hq => ⟨(G.objs q hq).1, (G.objs q hq).2.1, fun d e => ?_, (G.objs q hq).2.2.2⟩⟩
  · cases e
    refine ⟨hr.2.2, hr.2.1, ⟨_, hr.1, _, _, rfl, rfl, rfl, ?_⟩⟩
    rw [show ([Value.int v u].toArray).isEmpty = false from rfl]
    simp only [Bool.false_eq_true, if_false]
    rw [fold_replicate]; exact ints_replicate _ _ _
  · cases e
    intro z
    obtain ⟨o, ho, _⟩ := (F.objs q hq).1
    have := new_none h
    rw [z] at ho
    simp only at ho
    rw [this] at ho; cases ho
/-- a + b of lists -/
theorem x_cat {l l' : Addr} {ns ms : List Int} (F : Fm W h₀ L dl h m led) (x : Is h l (.kI ns)) (y : Is h l' (.kI ms)) (h1 : ns.length + ms.length ≤ 10000)
    (q : ∀ r h', Fm W h₀ L dl h' m ((r, .kP (ns ++ ms), true) :: led) → Q (.ref r) (St b h' t)) : wpAny (model prog w) A (binaryOp .Add (.ref l) (.ref l')) Q E (St b h t) := by
  obtain ⟨mm, news, F', N, tr⟩ := F.rows
  obtain ⟨vs, hl, hi⟩ := x.list
  obtain ⟨ws, hl', hi'⟩ := y.list
  refine add_lists_ints (s := St b h t) F' N hl hl' hi hi' (fun h' F'' N'' hi'' => ?_) (by unfold sizeLine; omega)
  have G := tr h' [_] F'' N''
  have hr := N'' _ (.head _)
  refine q _ _ ⟨G.gl, G.ns, G.keep, G.above, G.own, fun q hq => ?_⟩
  rcases List.mem_cons.mp hq with rfl | hq
  · refine ⟨⟨_, hr.1, (vs ++ ws).toArray, 0, rfl, rfl, rfl, by simpa using hi''⟩, hr.2.1, fun d e => ?_, hr.2.2⟩
    intro z
    obtain ⟨o, ho, _⟩ := (F.own d e).2.2
    have := new_none h
    rw [← z] at ho; simp only at ho
    rw [this] at ho; cases ho
  · exact G.objs q hq
/-- append to the list that is changed -/
theorem x_append {D : Addr} {ns : List Int} {v : Int} {u : Tok} (F : Fm W h₀ L (some (D, .kP ns)) h m led) (h1 : ns.length ≤ 10000)
    (q : ∀ h', Fm W h₀ L (some (D, .kP (ns ++ [v]))) h' m led → Q .none (St b h' t)) : wpAny (model prog w) A (call (.builtin "list.append") [.ref D, .int v u]) Q E (St b h t) := by
  obtain ⟨vs, hl, hi⟩ := F.hasD.plain
  refine list_append_plainL (s := St b h t) hl (fun h' hl' hs => q h' (F.change hs (Is.ofPlain hl' ?_))) (by rw [List.size_toArray, hi.length]; unfold sizeLine; omega)
  simpa using hi.append (.cons v u .nil)
/-- the statement x.append(e) -/
theorem x_appendCall {D : Addr} {ns : List Int} {x : Str} {elt : Expr} {p1 apos pos : Pos} (F : Fm W h₀ L (some (D, .kP ns)) h m led) (hx : m.lookup x = some (.ref D))
    (q : wpAny (model prog w) A (eval elt (envOf name scope L a cd)) (fun y s₂ => wpAny (model prog w) A (call (.builtin "list.append") [.ref D, y]) Q E s₂) E (St b h t))
    (hbase : attributeBase (.Name x p1) "append" (envOf name scope L a cd) (eval (.Name x p1) (envOf name scope L a cd)) = eval (.Name x p1) (envOf name scope L a cd) := by rfl)
    (hfew : ((backTo pos (starEach [elt] (envOf name scope L a cd))).all (fun x => !x.1) && (backToKw pos (keywordEach [] (envOf name scope L a cd))).all (fun x => x.1.isSome)
      && decide (([elt] : List Expr).length + ([] : List Keyword).length + (if ([] : List Keyword).isEmpty then 0 else 1) < 30)) = true := by rfl)
    (hline : (apos.endLine == pos.line) = true := by rfl)
    (htrees : backTo pos (starEach [elt] (envOf name scope L a cd)) = [(false, eval elt (envOf name scope L a cd))] := by rfl)
    (hk : scope.kind = .function := by rfl) (hl : (envOf name scope L a cd).kindOf x = some .local := by rfl) (hd : (x == ("__debug__" : Str)) = false := by decide) :
    wpAny (model prog w) A (eval (.Call (.Attribute (.Name x p1) "append" apos) [elt] [] pos) (envOf name scope L a cd)) Q E (St b h t) := by
  obtain ⟨vs, hp, hi⟩ := F.hasD.plain
  exact wpAny_Call_append hbase hfew hline htrees (r_loc F hx ⟨D, vs.toArray, rfl, hp, q⟩ hk hl hd)
/-- x[k] = v on the list that is changed -/
theorem x_setItem {D : Addr} {K : Kd} {ns : List Int} {k v : Int} {u u' : Tok} {Q : Unit → Shared → Prop} (F : Fm W h₀ L (some (D, K)) h m led) (x : Is h D (.kI ns)) (h0 : 0 ≤ k) (h1 : k < ns.length) (h2 : k < 2 ^ 62)
    (q : ∀ h', Fm W h₀ L (some (D, .kI (ns.set k.toNat v))) h' m led → Q () (St b h' t)) : wpAny (model prog w) A (setItem (.ref D) (.int k u') (.int v u)) Q E (St b h t) := by
  obtain ⟨vs, hl, hi⟩ := x.list
  refine wpAny_setItem_list (s := St b h t) hl h0 (by omega) (by rw [List.size_toArray, hi.length]; omega) fun h' hl' hs => q h' (F.change hs (Is.ofList hl' ?_))
  have set : ∀ {vs : List Value} {ns : List Int}, IntsAre vs ns → ∀ n : Nat, IntsAre (vs.set n (.int v u)) (ns.set n v) := by
    intro vs ns hh
    induction hh with
    | nil => intro n; exact .nil
    | cons n t _ ih => intro k; cases k with
      | zero => exact .cons _ _ (by assumption)
      | succ k => exact .cons _ _ (ih k)
  simpa using set hi k.toNat

theorem x_slice {value : Expr} {lower upper : Option Expr} {p pos : Pos}
    (q : wpAny (model prog w) A (eval value env) (fun o s₁ => wpAny (model prog w) A (evalPart lower env) (fun vl s₂ => wpAny (model prog w) A (evalPart upper env) (fun vu s₃ =>
      ∃ l ns lo hi h₁ t₁, o = .ref l ∧ s₃ = St b h₁ t₁ ∧ Is h₁ l (.kI ns) ∧ ns.length ≤ 10000 ∧ IsPart vl lo ∧ IsPart vu hi ∧
        ∀ vs : List Value, IntsAre vs ns → ∀ r h', Stays h₁ h' → h₁.get? r = none → (∃ n, h'.get? r = some { cls := .type "list", data := .seq (slicePick vs.toArray lo hi none) n }) → Q (.ref r) (St b h' t₁)) E s₂) E s₁) E (St b h t))
    (ht : ∀ o r, letTemporaryGo value o r = pure () := by intro _ _; rfl) :
    wpAny (model prog w) A (eval (.Subscript value (.Slice lower upper none p) pos) env) Q E (St b h t) := by
  refine wpAny_Subscript_list_slice (wpAny_mono q (fun o s₁ q => wpAny_mono q (fun vl s₂ q => wpAny_mono q (fun vu s₃ q => ?_) fun _ _ e => e) fun _ _ e => e) fun _ _ e => e) ht
  obtain ⟨l, ns, lo, hi, h₁, t₁, rfl, rfl, x, hsz, pl, pu, q⟩ := q
  obtain ⟨vs, hl, hvs⟩ := x.list
  refine ⟨l, vs.toArray, lo, hi, rfl, hl, by rw [List.size_toArray, hvs.length]; unfold sizeLine; omega, pl, pu, q vs hvs _ _ (fun c o e => Heap.get?_push_of_some _ (Heap.get?_push_of_some _ e)) ?_ ⟨0, ?_⟩⟩
  · have := new_none (h₁.push { cls := .type "slice", data := .fields #[vl, vu, .none] })
    rw [Heap.size_push] at this
    exact none_of (push_stays h₁ _) this
  · have := Heap.get?_push_size (h₁.push { cls := .type "slice", data := .fields #[vl, vu, .none] }) (o := { cls := .type "list", data := .seq (slicePick vs.toArray lo hi none) }) rfl
    rwa [Heap.size_push] at this
/-- x[:n] -/
theorem x_upto {x : Str} {e : Expr} {p1 p pos : Pos} {l : Addr} {ns : List Int} (F : Fm W h₀ L dl h m led) (hx : m.lookup x = some (.ref l))
    (q : wpAny (model prog w) A (eval e (envOf name scope L a cd)) (fun v s₁ => ∃ n u m' led' h₁ t₁, v = .int n u ∧ s₁ = St b h₁ t₁ ∧ 0 ≤ n ∧ Is h₁ l (.kI ns) ∧ ns.length ≤ 10000 ∧ Fm W h₀ L dl h₁ m' led' ∧
      ∀ r h', Fm W h₀ L dl h' m' ((r, .kP (ns.take n.toNat), true) :: led') → Q (.ref r) (St b h' t₁)) E (St b h t))
    (hk : scope.kind = .function := by rfl) (hl : (envOf name scope L a cd).kindOf x = some .local := by rfl) (hd : (x == ("__debug__" : Str)) = false := by decide) :
    wpAny (model prog w) A (eval (.Subscript (.Name x p1) (.Slice none (some e) none p) pos) (envOf name scope L a cd)) Q E (St b h t) := by
  refine x_slice (r_loc F hx ?_ hk hl hd)
  refine wpAny_evalPart_none (wpAny_evalPart_some (wpAny_mono q (fun v s₁ q => ?_) fun _ _ e => e))
  obtain ⟨n, u, m', led', h₁, t₁, rfl, rfl, h0, y, hsz, F', q⟩ := q
  refine ⟨l, ns, none, some n, h₁, t₁, rfl, rfl, y, hsz, .none, .int _ _, fun vs hvs r h' st nn hr => q r h' (F'.add st nn ?_)⟩
  obtain ⟨k, hr⟩ := hr
  refine ⟨_, hr, _, k, rfl, rfl, rfl, ?_⟩
  obtain ⟨k', rfl⟩ := Int.eq_ofNat_of_zero_le h0
  rw [slicePick_upto']
  simpa using hvs.take k'
/-- x[n:] -/
theorem x_from {x : Str} {e : Expr} {p1 p pos : Pos} {l : Addr} {ns : List Int} (F : Fm W h₀ L dl h m led) (hx : m.lookup x = some (.ref l))
    (q : wpAny (model prog w) A (eval e (envOf name scope L a cd)) (fun v s₁ => ∃ n u m' led' h₁ t₁, v = .int n u ∧ s₁ = St b h₁ t₁ ∧ 0 ≤ n ∧ Is h₁ l (.kI ns) ∧ ns.length ≤ 10000 ∧ Fm W h₀ L dl h₁ m' led' ∧
      ∀ r h', Fm W h₀ L dl h' m' ((r, .kP (ns.drop n.toNat), true) :: led') → Q (.ref r) (St b h' t₁)) E (St b h t))
    (hk : scope.kind = .function := by rfl) (hl : (envOf name scope L a cd).kindOf x = some .local := by rfl) (hd : (x == ("__debug__" : Str)) = false := by decide) :
    wpAny (model prog w) A (eval (.Subscript (.Name x p1) (.Slice (some e) none none p) pos) (envOf name scope L a cd)) Q E (St b h t) := by
  refine x_slice (r_loc F hx ?_ hk hl hd)
  refine wpAny_evalPart_some (wpAny_mono q (fun v s₁ q => ?_) fun _ _ e => e)
  obtain ⟨n, u, m', led', h₁, t₁, rfl, rfl, h0, y, hsz, F', q⟩ := q
  refine wpAny_evalPart_none ?_
  refine ⟨l, ns, some n, none, h₁, t₁, rfl, rfl, y, hsz, .int _ _, .none, fun vs hvs r h' st nn hr => q r h' (F'.add st nn ?_)⟩
  obtain ⟨k, hr⟩ := hr
  refine ⟨_, hr, _, k, rfl, rfl, rfl, ?_⟩
  obtain ⟨k', rfl⟩ := Int.eq_ofNat_of_zero_le h0
  rw [slicePick_from']
  simpa using hvs.drop k'

theorem x_uptoN {x y : Str} {p1 p2 p pos : Pos} {l : Addr} {ns : List Int} {n : Int} {u : Tok} (F : Fm W h₀ L dl h m led) (hx : m.lookup x = some (.ref l)) (hy : m.lookup y = some (.int n u)) (i : Is h l (.kI ns)) (h0 : 0 ≤ n) (hsz : ns.length ≤ 10000)
    (q : ∀ r h', Fm W h₀ L dl h' m ((r, .kP (ns.take n.toNat), true) :: led) → Q (.ref r) (St b h' t))
    (hk : scope.kind = .function := by rfl) (hl : (envOf name scope L a cd).kindOf x = some .local := by rfl) (hd : (x == ("__debug__" : Str)) = false := by decide) (hly : (envOf name scope L a cd).kindOf y = some .local := by rfl) (hdy : (y == ("__debug__" : Str)) = false := by decide) :
    wpAny (model prog w) A (eval (.Subscript (.Name x p1) (.Slice none (some (.Name y p2)) none p) pos) (envOf name scope L a cd)) Q E (St b h t) :=
  x_upto F hx (r_loc F hy ⟨n, u, m, led, h, t, rfl, rfl, h0, i, hsz, F, q⟩ hk hly hdy) hk hl hd
theorem x_fromN {x y : Str} {p1 p2 p pos : Pos} {l : Addr} {ns : List Int} {n : Int} {u : Tok} (F : Fm W h₀ L dl h m led) (hx : m.lookup x = some (.ref l)) (hy : m.lookup y = some (.int n u)) (i : Is h l (.kI ns)) (h0 : 0 ≤ n) (hsz : ns.length ≤ 10000)
    (q : ∀ r h', Fm W h₀ L dl h' m ((r, .kP (ns.drop n.toNat), true) :: led) → Q (.ref r) (St b h' t))
    (hk : scope.kind = .function := by rfl) (hl : (envOf name scope L a cd).kindOf x = some .local := by rfl) (hd : (x == ("__debug__" : Str)) = false := by decide) (hly : (envOf name scope L a cd).kindOf y = some .local := by rfl) (hdy : (y == ("__debug__" : Str)) = false := by decide) :
    wpAny (model prog w) A (eval (.Subscript (.Name x p1) (.Slice (some (.Name y p2)) none none p) pos) (envOf name scope L a cd)) Q E (St b h t) :=
  x_from F hx (r_loc F hy ⟨n, u, m, led, h, t, rfl, rfl, h0, i, hsz, F, q⟩ hk hly hdy) hk hl hd

abbrev rangeObj (x y z : Int) (t u v : Tok) : Obj := { cls := .type "range", dict := none, data := .fields #[.int x t, .int y u, .int z v], slots := #[] }
theorem x_range1 {n : Int} {u : Tok} (F : Fm W h₀ L dl h m led) (q : ∀ r h' t' u₁ u₂ u₃, Fm W h₀ L dl h' m ((r, .kR (rangeObj 0 n 1 u₁ u₂ u₃), true) :: led) → Q (.ref r) (St b h' t')) :
    wpAny (model prog w) A (call (.type "range") [.int n u]) Q E (St b h t) :=
  call_range_1 (s := St b h t) (q _ _ _ _ _ _ (F.add (push_stays h _) (new_none h) ⟨_, Heap.get?_push_size _ rfl, rfl, fun _ _ e => nomatch e⟩))
theorem x_range3 {x y : Int} {u₁ u₂ u₃ : Tok} (F : Fm W h₀ L dl h m led) (q : ∀ r h' t', Fm W h₀ L dl h' m ((r, .kR (rangeObj x y (-1) u₁ u₂ u₃), true) :: led) → Q (.ref r) (St b h' t')) :
    wpAny (model prog w) A (call (.type "range") [.int x u₁, .int y u₂, .int (-1) u₃]) Q E (St b h t) :=
  call_range_3 (s := St b h t) (by decide) (q _ _ _ (F.add (push_stays h _) (new_none h) ⟨_, Heap.get?_push_size _ rfl, rfl, fun _ _ e => nomatch e⟩)) (.inl (PyProof.noPylong_of_log2 (by decide +kernel)))
theorem x_max (F : Fm W h₀ L dl h m led) (hA : A.handled = none) (q : ∀ u h' t', Fm W h₀ L dl h' m led → Q (.int (max i j) u) (St b h' t')) : wpAny (model prog w) A (call (.builtin "max") [.int i u₁, .int j u₂]) Q E (St b h t) := by
  refine max_two_ints (s := St b h t) hA fun h' tk hk => ?_
  by_cases c : j > i
  · rw [if_pos c]; have := q u₂ h' tk (F.after hk); rwa [show max i j = j by omega] at this
  · rw [if_neg c]; have := q u₁ h' tk (F.after hk); rwa [show max i j = i by omega] at this
end
theorem sub_nil {α : Type} {l : List α} : ∀ q ∈ ([] : List α), q ∈ l := fun _ h => nomatch h
theorem sub_cons {α : Type} {a : α} {r l : List α} (h : a ∈ l) (k : ∀ q ∈ r, q ∈ l) : ∀ q ∈ a :: r, q ∈ l := fun q hq => by
  rcases List.mem_cons.mp hq with rfl | hq
  · exact h
  · exact k q hq
theorem turn_next {σ : Type} {W : Wd} {h₀ : Heap} {L : Addr} {b : Shared} {dlO : σ → Option (Addr × Kd)} {mO : σ → List (Str × Value)} {ledO : σ → List Ent} {J : σ → Prop} {Q : Flow → Shared → Prop} {dl : Option (Addr × Kd)} {h : Heap} {m : List (Str × Value)} {led : List Ent} {t : Nat}
    (c : σ) (F : Fm W h₀ L dl h m led) (hd : dl = dlO c) (hm : Sub (mO c) m) (hl : ∀ q ∈ ledO c, q ∈ led) (hJ : J c) : TurnPost W h₀ L b dlO mO ledO J Q .next (St b h t) :=
  ⟨c, h, t, rfl, by subst hd; exact F.wk hm hl, hJ⟩
theorem ite_dec {p : Prop} [Decidable p] {X Y : Prop} (h1 : p → X) (h2 : ¬ p → Y) : if decide p = true then X else Y := by
  by_cases h : p
  · rw [if_pos (by simpa using h)]; exact h1 h
  · rw [if_neg (by simpa using h)]; exact h2 h
theorem ite_beq {a b : Int} {X Y : Prop} (h1 : a = b → X) (h2 : a ≠ b → Y) : if (a == b) = true then X else Y := by
  by_cases h : a = b
  · rw [if_pos (by simpa using h)]; exact h1 h
  · rw [if_neg (by simpa using h)]; exact h2 h
theorem ite_bne {a b : Int} {X Y : Prop} (h1 : a ≠ b → X) (h2 : a = b → Y) : if (a != b) = true then X else Y := by
  by_cases h : a = b
  · rw [if_neg (by simpa using h)]; exact h2 h
  · rw [if_pos (by simpa using h)]; exact h1 h
theorem ite_t {X Y : Prop} (h : X) : if true = true then X else Y := by rw [if_pos rfl]; exact h
theorem ite_f {X Y : Prop} (h : Y) : if false = true then X else Y := by rw [if_neg (by decide)]; exact h
theorem bb_len : bootBuiltins "len" = some (.builtin "len") := by decide +kernel
theorem bb_max : bootBuiltins "max" = some (.builtin "max") := by decide +kernel
theorem bb_range : bootBuiltins "range" = some (.type "range") := by decide +kernel
section
variable {W : Wd} {prog : Program} {w : World} {M : Model} {A : Around} {E : Value → Shared → Prop} {b : Shared} {h₀ h : Heap} {L a : Addr} {dl : Option (Addr × Kd)} {t : Nat}
  {m : List (Str × Value)} {led : List Ent} {name : Str} {scope : Scope} {cd : Value} {Q : Value → Shared → Prop}
/-- a call of a built-in function -/
theorem r_bcall {x : Str} {id : String} {e : Expr} {rest : List Expr} {pos pos' : Pos} (hv : bootBuiltins x = some (.builtin id)) (F : Fm W h₀ L dl h m led) (hx : x ∈ W.bn)
    (k : wpAny M A (spliced (backTo pos (starEach (e :: rest) (envOf name scope L a cd)))) (fun vs s₁ => wpAny M A (call (.builtin id) vs) Q E s₁) E (St b h t))
    (he : starEach (e :: rest) (envOf name scope L a cd) = (false, eval e (envOf name scope L a cd)) :: starEach rest (envOf name scope L a cd) := by rfl)
    (he2 : eval (.Call (.Name x pos') (e :: rest) [] pos) (envOf name scope L a cd) = (do callWith pos (← eval (.Name x pos') (envOf name scope L a cd)) [] (backTo pos (starEach (e :: rest) (envOf name scope L a cd))) (backToKw pos (keywordEach [] (envOf name scope L a cd)))) := by rfl)
    (hplain : (backTo pos (starEach rest (envOf name scope L a cd))).any (·.1) = false := by rfl) (hne : x ≠ "__name__" := by decide)
    (hk : scope.kind = .function := by rfl) (hl : (envOf name scope L a cd).kindOf x = some .globalImplicit := by rfl) (hn : (x == ("__debug__" : Str)) = false := by decide) :
    wpAny M A (eval (.Call (.Name x pos') (e :: rest) [] pos) (envOf name scope L a cd)) Q E (St b h t) :=
  Call_ (r_bi F hx hv (PyProof.Rows.callWith_builtin1 k he hplain) hne hk hl hn) he2
/-- a call of a built-in type -/
theorem r_tcall {x : Str} {T : String} {e : Expr} {rest : List Expr} {pos pos' : Pos} (hv : bootBuiltins x = some (.type T)) (F : Fm W h₀ L dl h m led) (hx : x ∈ W.bn)
    (k : wpAny M A (spliced (backTo pos (starEach (e :: rest) (envOf name scope L a cd)))) (fun vs s₁ => wpAny M A (call (.type T) vs) Q E s₁) E (St b h t))
    (he : starEach (e :: rest) (envOf name scope L a cd) = (false, eval e (envOf name scope L a cd)) :: starEach rest (envOf name scope L a cd) := by rfl)
    (he2 : eval (.Call (.Name x pos') (e :: rest) [] pos) (envOf name scope L a cd) = (do callWith pos (← eval (.Name x pos') (envOf name scope L a cd)) [] (backTo pos (starEach (e :: rest) (envOf name scope L a cd))) (backToKw pos (keywordEach [] (envOf name scope L a cd)))) := by rfl)
    (hplain : (backTo pos (starEach rest (envOf name scope L a cd))).any (·.1) = false := by rfl) (hne : x ≠ "__name__" := by decide)
    (hk : scope.kind = .function := by rfl) (hl : (envOf name scope L a cd).kindOf x = some .globalImplicit := by rfl) (hn : (x == ("__debug__" : Str)) = false := by decide) :
    wpAny M A (eval (.Call (.Name x pos') (e :: rest) [] pos) (envOf name scope L a cd)) Q E (St b h t) := by
  exact Call_ (r_bi F hx hv (PyProof.Rows.callWith_type1 k he hplain) hne hk hl hn) he2
/-- len of a list that a local names -/
theorem r_len {x : Str} {l : Addr} {ns : List Int} {pos p1 p2 : Pos} (F : Fm W h₀ L dl h m led) (hx : m.lookup x = some (.ref l)) (i : Is h l (.kI ns)) (hn : ns.length < 2 ^ 62) (q : ∀ u t', Q (.int (ns.length : Nat) u) (St b h t'))
    (hb : Str.ofString "len" ∈ W.bn) (he2 : eval (.Call (.Name "len" p1) [.Name x p2] [] pos) (envOf name scope L a cd) = (do callWith pos (← eval (.Name "len" p1) (envOf name scope L a cd)) [] (backTo pos (starEach [.Name x p2] (envOf name scope L a cd))) (backToKw pos (keywordEach [] (envOf name scope L a cd)))) := by rfl)
    (hk : scope.kind = .function := by rfl) (hl : (envOf name scope L a cd).kindOf "len" = some .globalImplicit := by rfl) (hlx : (envOf name scope L a cd).kindOf x = some .local := by rfl) (hd : (x == ("__debug__" : Str)) = false := by decide) :
    wpAny (model prog w) A (eval (.Call (.Name "len" p1) [.Name x p2] [] pos) (envOf name scope L a cd)) Q E (St b h t) :=
  r_bcall bb_len F hb (args_cons (r_loc F hx (args_nil (x_len i hn q)) hk hlx hd)) (he2 := he2) (hk := hk) (hl := hl)
end
theorem small_down' {a b : Int} (ha : -(2 ^ 62) ≤ a) (ha' : a < 2 ^ 62) (hb : -(2 ^ 62) ≤ b) (hb' : b < 2 ^ 62) : Builtin.Range.small a b (-1) = true ∧ Builtin.Range.rangeSize a b (-1) = ((a - b).toNat : Int) := by
  have e : Builtin.Range.rangeSize a b (-1) = ((a - b).toNat : Int) := by
    unfold Builtin.Range.rangeSize
    simp only [show ¬ ((-1 : Int) > 0) by decide, if_false, show (-(-1) : Int) = 1 from rfl, Int.ediv_one]
    split <;> omega
  refine ⟨?_, e⟩
  unfold Builtin.Range.small
  rw [e]
  simp only [Builtin.Range.rangeFitsLong, Bool.and_eq_true, Bool.or_eq_true, decide_eq_true_eq, beq_iff_eq, show ¬ ((-1 : Int) > 0) by decide, if_false]
  omega

section
variable {W : Wd} {prog : Program} {w : World} {M : Model} {A : Around} {E : Value → Shared → Prop} {b : Shared} {h₀ h : Heap} {L a : Addr} {dl : Option (Addr × Kd)} {t : Nat}
  {m : List (Str × Value)} {led : List Ent} {name : Str} {scope : Scope} {cd : Value} {R : Result → Shared → Prop} {x : Str} {pv : Pos} {body : List Stmt} {r : Addr}
/-- a loop over a range -/
theorem r_range {σ : Type} {x₁ x₂ x₃ : Int} {u₁ u₂ u₃ : Tok} {led₁ : List Ent} {m₁ : List (Str × Value)} (n : Nat) (F : Fm W h₀ L dl h m₁ led₁) (hr : (r, .kR (rangeObj x₁ x₂ x₃ u₁ u₂ u₃), true) ∈ led₁) (hA : A.handled = none)
    (hsm : Builtin.Range.small x₁ x₂ x₃ = true) (hn : Builtin.Range.rangeSize x₁ x₂ x₃ = (n : Int))
    (dlO : σ → Option (Addr × Kd)) (mO : σ → List (Str × Value)) (newO : σ → List Ent) (J : Nat → σ → Prop) (c₀ : σ)
    (hd : dl = dlO c₀) (hm : Sub (mO c₀) m₁) (hl : ∀ q ∈ newO c₀ ++ led, q ∈ led₁) (hnew : ∀ c, ∀ q ∈ newO c, q.2.1.notRaw = true) (hJ : J 0 c₀)
    (turn : ∀ i c u h t o I (E' : Value → Shared → Prop), i < n → J i c → Fm W h₀ L (dlO c) h ((x, .int (x₁ + i * x₃) u) :: mO c) ((I, .kR o, true) :: (r, .kR (rangeObj x₁ x₂ x₃ u₁ u₂ u₃), true) :: (newO c ++ led)) →
      wpAny (model prog w) A (execs body (envOf name scope L a cd)) (TurnPost W h₀ L b dlO mO (fun c' => (I, .kR o, true) :: (r, .kR (rangeObj x₁ x₂ x₃ u₁ u₂ u₃), true) :: (newO c' ++ led)) (J (i + 1)) (fun f s' => R (.ok f) s')) E' (St b h t))
    (done : ∀ c h t, J n c → Fm W h₀ L (dlO c) h (mO c) (newO c ++ led) → R (.ok .next) (St b h t))
    (hk : scope.kind = .function := by rfl) (hx : (envOf name scope L a cd).kindOf x = some .local := by rfl)
    (ht : ∀ I v, letOwnedTupleGo (.Name x pv) (.ref I) v = pure () := by intro _ _; rfl) :
    wpAny (model prog w) A (pyIter (.ref r)) (fun it s₂ => codeAny (model prog w) A (.forLoop (.Name x pv) it body [] (envOf name scope L a cd)) R s₂) E (St b h t) := by
  have O := F.objs _ hr
  obtain ⟨or, hor, hk', hkd⟩ := O.1
  subst hk'
  subst hd
  refine wpAny_pyIter_range (s := St b h t) hor hsm ?_
  have F₁ := (F.wk hm hl).after (push_stays h { cls := .type "range_iterator", data := .fields #[rawInt x₁, rawInt (Builtin.Range.rangeSize x₁ x₂ x₃), rawInt x₃] })
  have F₀ := F
  refine r_walk (h := h.push _) (I := h.objs.size) (ax := r) (oX := rangeObj x₁ x₂ x₃ u₁ u₂ u₃) (nX := true) (oI := { cls := .type "range_iterator", data := .fields #[rawInt x₁, rawInt (Builtin.Range.rangeSize x₁ x₂ x₃), rawInt x₃] }) (Walks.range hA h.objs.size x₁ x₃ n) (fun c hc => .inl (List.mem_singleton.mp hc)) (Nat.ne_of_lt (Heap.lt_size hor)) dlO mO newO J c₀ F₁ ?_ (none_of F.keep (new_none h)) ?_ ?_ (Heap.get?_push_size _ rfl) (Heap.get?_push_of_some _ hor) O.2.1 O.2.2.1 O.2.2.2 ?_ ?_ ?_ hkd ?_ hnew hJ ?_ done (fun _ v _ _ _ _ q => wpAny_of_eq (ht _ v) q)
  · show IsRangeIter _ _ _ _ _
    rw [hn]; simpa using Heap.get?_push_size _ rfl
  · obtain ⟨o, ho⟩ := F.lget; exact Ne.symm (Nat.ne_of_lt (Heap.lt_size ho))
  · intro d e
    obtain ⟨o, ho, _⟩ := (F.own d e).2.2; exact Ne.symm (Nat.ne_of_lt (Heap.lt_size ho))
  · constructor <;> (intro e; simp at e)
  · intro i h o st e
    have st' : h.get? _ = some _ := st
    rw [st'] at e; cases e; rfl
  · intro i h st
    exact ⟨_, st, fun _ _ e => nomatch e⟩
  · intro q hq
    obtain ⟨o, ho, _⟩ := (F.objs q (hl q (List.mem_append_right _ hq))).1
    exact Nat.ne_of_lt (Heap.lt_size ho)
  · rintro i c v h' t' o E' hi ⟨u, rfl⟩ hJ' F'
    exact wpAny_assign_Name (r_store F' (fun h'' t'' F'' => turn i c u h'' t'' o _ E' hi hJ' F'') hk hx)
/-- for x in range(n) -/
theorem r_up {σ : Type} {u₁ u₂ u₃ : Tok} {led₁ : List Ent} {m₁ : List (Str × Value)} {N : Int} (n : Nat) (hn : n < 2 ^ 60) (F : Fm W h₀ L dl h m₁ led₁) (hr : (r, .kR (rangeObj 0 N 1 u₁ u₂ u₃), true) ∈ led₁) (hN : N = (n : Int)) (hA : A.handled = none)
    (dlO : σ → Option (Addr × Kd)) (mO : σ → List (Str × Value)) (newO : σ → List Ent) (led : List Ent) (J : Nat → σ → Prop) (c₀ : σ)
    (hd : dl = dlO c₀) (hm : Sub (mO c₀) m₁) (hl : ∀ q ∈ newO c₀ ++ led, q ∈ led₁) (hnew : ∀ c, ∀ q ∈ newO c, q.2.1.notRaw = true) (hJ : J 0 c₀)
    (turn : ∀ j c u h t o I (E' : Value → Shared → Prop), j < n → J j c → Fm W h₀ L (dlO c) h ((x, .int (j : Int) u) :: mO c) ((I, .kR o, true) :: (r, .kR (rangeObj 0 N 1 u₁ u₂ u₃), true) :: (newO c ++ led)) →
      wpAny (model prog w) A (execs body (envOf name scope L a cd)) (TurnPost W h₀ L b dlO mO (fun c' => (I, .kR o, true) :: (r, .kR (rangeObj 0 N 1 u₁ u₂ u₃), true) :: (newO c' ++ led)) (J (j + 1)) (fun f s' => R (.ok f) s')) E' (St b h t))
    (done : ∀ c h t, J n c → Fm W h₀ L (dlO c) h (mO c) (newO c ++ led) → R (.ok .next) (St b h t))
    (hk : scope.kind = .function := by rfl) (hx : (envOf name scope L a cd).kindOf x = some .local := by rfl)
    (ht : ∀ I v, letOwnedTupleGo (.Name x pv) (.ref I) v = pure () := by intro _ _; rfl) :
    wpAny (model prog w) A (pyIter (.ref r)) (fun it s₂ => codeAny (model prog w) A (.forLoop (.Name x pv) it body [] (envOf name scope L a cd)) R s₂) E (St b h t) :=
  r_range n F hr hA (small_one (by omega) (by omega) (by omega) (by omega)) (by rw [rangeSize_nat]; omega) dlO mO newO J c₀ hd hm hl hnew hJ
    (fun i c u h t o I E' hi hJ' F' => turn i c u h t o I E' hi hJ' (by rwa [show (0 : Int) + (i : Int) * 1 = (i : Int) by omega] at F')) done hk hx ht
/-- for x in range(n - 1, -1, -1): j + 1 places are left ahead of the turn with x = j -/
theorem r_down {σ : Type} {u₁ u₂ u₃ : Tok} {led₁ : List Ent} {m₁ : List (Str × Value)} {N : Int} (n : Nat) (hn : n < 2 ^ 60) (F : Fm W h₀ L dl h m₁ led₁) (hr : (r, .kR (rangeObj N (-1) (-1) u₁ u₂ u₃), true) ∈ led₁) (hN : N = (n : Int) - 1) (hA : A.handled = none)
    (dlO : σ → Option (Addr × Kd)) (mO : σ → List (Str × Value)) (newO : σ → List Ent) (led : List Ent) (J : Nat → σ → Prop) (c₀ : σ)
    (hd : dl = dlO c₀) (hm : Sub (mO c₀) m₁) (hl : ∀ q ∈ newO c₀ ++ led, q ∈ led₁) (hnew : ∀ c, ∀ q ∈ newO c, q.2.1.notRaw = true) (hJ : J n c₀)
    (turn : ∀ j c u h t o I (E' : Value → Shared → Prop), j < n → J (j + 1) c → Fm W h₀ L (dlO c) h ((x, .int (j : Int) u) :: mO c) ((I, .kR o, true) :: (r, .kR (rangeObj N (-1) (-1) u₁ u₂ u₃), true) :: (newO c ++ led)) →
      wpAny (model prog w) A (execs body (envOf name scope L a cd)) (TurnPost W h₀ L b dlO mO (fun c' => (I, .kR o, true) :: (r, .kR (rangeObj N (-1) (-1) u₁ u₂ u₃), true) :: (newO c' ++ led)) (J j) (fun f s' => R (.ok f) s')) E' (St b h t))
    (done : ∀ c h t, J 0 c → Fm W h₀ L (dlO c) h (mO c) (newO c ++ led) → R (.ok .next) (St b h t))
    (hk : scope.kind = .function := by rfl) (hx : (envOf name scope L a cd).kindOf x = some .local := by rfl)
    (ht : ∀ I v, letOwnedTupleGo (.Name x pv) (.ref I) v = pure () := by intro _ _; rfl) :
    wpAny (model prog w) A (pyIter (.ref r)) (fun it s₂ => codeAny (model prog w) A (.forLoop (.Name x pv) it body [] (envOf name scope L a cd)) R s₂) E (St b h t) := by
  have sd := small_down' (a := N) (b := -1) (by omega) (by omega) (by omega) (by omega)
  refine r_range n F hr hA sd.1 (by rw [sd.2]; omega) dlO mO newO (fun i c => J (n - i) c) c₀ hd hm hl hnew hJ (fun i c u h t o I E' hi hJ' F' => ?_) (fun c h t hJ' F' => done c h t (by rwa [Nat.sub_self] at hJ') F') hk hx ht
  have e : N + (i : Int) * (-1) = ((n - 1 - i : Nat) : Int) := by omega
  rw [e] at F'
  have := turn (n - 1 - i) c u h t o I E' (by omega) (by rwa [show n - 1 - i + 1 = n - i by omega]) F'
  rwa [show n - 1 - i = n - (i + 1) by omega] at this
/-- for x in l, l a list of ints -/
theorem r_list {σ : Type} {l : Addr} {ns : List Int} {nl : Bool} {led₁ : List Ent} {m₁ : List (Str × Value)} (F : Fm W h₀ L dl h m₁ led₁) (hr : (l, .kI ns, nl) ∈ led₁) (hA : A.handled = none)
    (dlO : σ → Option (Addr × Kd)) (mO : σ → List (Str × Value)) (newO : σ → List Ent) (led : List Ent) (J : Nat → σ → Prop) (c₀ : σ)
    (hd : dl = dlO c₀) (hm : Sub (mO c₀) m₁) (hl : ∀ q ∈ newO c₀ ++ led, q ∈ led₁) (hnew : ∀ c, ∀ q ∈ newO c, q.2.1.notRaw = true) (hJ : J 0 c₀)
    (turn : ∀ j c u h t o I oX (E' : Value → Shared → Prop), j < ns.length → J j c → Fm W h₀ L (dlO c) h ((x, .int (ns.getD j 0) u) :: mO c) ((I, .kR o, true) :: (l, .kR oX, nl) :: (newO c ++ led)) →
      wpAny (model prog w) A (execs body (envOf name scope L a cd)) (TurnPost W h₀ L b dlO mO (fun c' => (I, .kR o, true) :: (l, .kR oX, nl) :: (newO c' ++ led)) (J (j + 1)) (fun f s' => R (.ok f) s')) E' (St b h t))
    (done : ∀ c h t, J ns.length c → Fm W h₀ L (dlO c) h (mO c) (newO c ++ led) → R (.ok .next) (St b h t))
    (hk : scope.kind = .function := by rfl) (hx : (envOf name scope L a cd).kindOf x = some .local := by rfl)
    (ht : ∀ I v, letOwnedTupleGo (.Name x pv) (.ref I) v = pure () := by intro _ _; rfl) :
    wpAny (model prog w) A (pyIter (.ref l)) (fun it s₂ => codeAny (model prog w) A (.forLoop (.Name x pv) it body [] (envOf name scope L a cd)) R s₂) E (St b h t) := by
  have O := F.objs _ hr
  obtain ⟨ol, hol, vs, nn, hc, hdt, hi⟩ := id O.1
  have hlist : h.IsList l vs := ⟨ol, hol, hc, nn, hdt⟩
  subst hd
  refine wpAny_pyIter_list (s := St b h t) hlist ?_
  have F₁ := (F.wk hm hl).after (push_stays h { cls := .type "list_iterator", data := .fields #[.ref l, .int 0 0] })
  have hsz : vs.size = ns.length := by have := hi.length; rw [← this, Array.length_toList]
  have hne : l ≠ h.objs.size := Nat.ne_of_lt (Heap.lt_size hol)
  have Wk := Walks.list (prog := prog) (w := w) hA h.objs.size l hne vs
  rw [hsz] at Wk
  refine r_walk (h := h.push _) (I := h.objs.size) (ax := l) (oX := ol) (nX := nl) (oI := { cls := .type "list_iterator", data := .fields #[.ref l, .int 0 0] }) Wk (fun c hc => by simpa using hc) hne dlO mO newO J c₀ F₁ ?_ (none_of F.keep (new_none h)) ?_ ?_ (Heap.get?_push_size _ rfl) (Heap.get?_push_of_some _ hol) O.2.1 O.2.2.1 ?_ ?_ ?_ ?_ (by intro es n e; rw [hdt] at e; cases e) ?_ hnew hJ ?_ done (fun _ v _ _ _ _ q => wpAny_of_eq (ht _ v) q)
  · exact ⟨⟨_, Heap.get?_push_size _ rfl, rfl, rfl⟩, hlist.push _⟩
  · obtain ⟨o, ho⟩ := F.lget; exact Ne.symm (Nat.ne_of_lt (Heap.lt_size ho))
  · intro d e
    obtain ⟨o, ho, _⟩ := (F.own d e).2.2; exact Ne.symm (Nat.ne_of_lt (Heap.lt_size ho))
  · have H := O.2.2.2
    cases nl with
    | true => exact H
    | false =>
      obtain ⟨o', ho', _⟩ := H
      have := F.keep _ _ ho'
      simp only at this
      rw [hol] at this; cases this
      exact ⟨_, ho', rfl, by intro es n e; rw [hdt] at e; cases e⟩
  · constructor <;> (intro e; simp at e)
  · intro i h o st e
    obtain ⟨⟨o', ho', hc', _⟩, _⟩ := st
    rw [ho'] at e; cases e; exact hc'
  · intro i h st
    obtain ⟨⟨o', ho', _, hd'⟩, _⟩ := st
    exact ⟨_, ho', by intro es n e; rw [hd'] at e; cases e⟩
  · intro q hq
    obtain ⟨o, ho, _⟩ := (F.objs q (hl q (List.mem_append_right _ hq))).1
    exact Nat.ne_of_lt (Heap.lt_size ho)
  · rintro i c v h' t' o E' hi' hP hJ' F'
    obtain ⟨u, hu⟩ := hi.get i (ns.getD i 0) (by simp [List.getD_eq_getElem?_getD, hi'])
    have hv : v = .int (ns.getD i 0) u := by
      rw [Array.getElem?_toList] at hu
      have hP' : vs[i]? = some v := hP
      rw [hu] at hP'; exact (Option.some.inj hP').symm
    subst hv
    exact wpAny_assign_Name (r_store F' (fun h'' t'' F'' => turn i c u h'' t'' o _ ol E' hi' hJ' F'') hk hx)
end
end Mine
namespace Mine
open PySem PySem.Calls PyProof.Rows

def Kd.notDat : Kd → Bool
  | .kD _ => false
  | _ => true
theorem notDat_data {o : Obj} {K : Kd} (n : K.notDat = true) (k : KdAt o K) (es : Array DictEntry) (j : Nat) : o.data ≠ .dict es j := by
  cases K with
  | kI ns => obtain ⟨_, _, _, e, _⟩ := k; rw [e]; exact fun q => nomatch q
  | kP ns => obtain ⟨_, _, _, _, e, _⟩ := k; rw [e]; exact fun q => nomatch q
  | kE vs => obtain ⟨_, e⟩ := k; rw [e]; exact fun q => nomatch q
  | kT vs => obtain ⟨_, _, e⟩ := k; rw [e]; exact fun q => nomatch q
  | kS l => obtain ⟨_, _, _, e⟩ := k; rw [e]; exact fun q => nomatch q
  | kR o => exact k.2 es j
  | kD d => cases n
/-- the frames outside -/
structure Stk (A : Around) (outer : List Env) (led : List Ent) : Prop where
  fr : A.frames = some outer
  ok : ∀ env ∈ outer, env.scope.kind ≠ .module ∧ ∃ l d, env.frame = some l ∧ (l, .kD d, true) ∈ led
theorem Stk.sub {A : Around} {outer : List Env} {led led' : List Ent} (S : Stk A outer led) (h : ∀ q ∈ led, q ∈ led') : Stk A outer led' :=
  ⟨S.fr, fun env he => let ⟨k, l, d, hf, hm⟩ := S.ok env he; ⟨k, l, d, hf, h _ hm⟩⟩
def frOf (outer : List Env) : List Addr := outer.filterMap (·.frame)
section
variable {W : Wd} {prog : Program} {w : World} {M : Model} {A : Around} {E : Value → Shared → Prop} {b : Shared} {h₀ h h' : Heap} {L a : Addr} {t : Nat} {outer : List Env}
  {m : List (Str × Value)} {led : List Ent} {name : Str} {scope : Scope} {cd : Value}

theorem fr_dict (F : Fm W h₀ L none h m led) (S : Stk A outer led) {l : Addr} (hl : l ∈ L :: frOf outer) : ∃ o es n, h.get? l = some o ∧ o.data = .dict es n ∧ h₀.get? l = none := by
  rcases List.mem_cons.mp hl with rfl | hl
  · obtain ⟨_, ⟨o, es, n, ho, hd, _⟩, _⟩ := F.ns
    exact ⟨o, es, n, ho, hd, F.fresh⟩
  · obtain ⟨env, he, hf⟩ := List.mem_filterMap.mp hl
    obtain ⟨_, l', d, hf', hm⟩ := S.ok env he
    obtain rfl : l' = l := Option.some.inj (hf'.symm.trans hf)
    obtain ⟨o, ho, hd, es, n, e⟩ := (F.objs _ hm).1
    exact ⟨o, es, n, ho, by rw [hd, e], (F.objs _ hm).2.2.2⟩
/-- all but the frames -/
abbrev apart (h : Heap) (L : Addr) (outer : List Env) : Heap := PySem.W.hideAll h (L :: frOf outer)
theorem apart_stays (h : Heap) (L : Addr) (outer : List Env) : (apart h L outer).StaysIn h := fun _ _ e => PySem.W.of_hideAll _ e
theorem apart_fun (F : Fm W h₀ L none h m led) (S : Stk A outer led) (hk : scope.kind = .function) : h.FunFrames (apart h L outer) (envOf name scope L a cd :: outer) := by
  have out : ∀ l : List Env, (∀ env ∈ l, env ∈ outer) → h.FunFrames (apart h L outer) l := by
    intro l
    induction l with
    | nil => intro _; trivial
    | cons env r ih =>
      intro hs
      obtain ⟨hm, l, d, hf, _⟩ := S.ok env (hs env (.head _))
      have hin : l ∈ L :: frOf outer := .tail _ (List.mem_filterMap.mpr ⟨env, hs env (.head _), hf⟩)
      obtain ⟨o, es, n, ho, hd, _⟩ := fr_dict F S hin
      exact ⟨hm, ⟨l, o, hf, PySem.W.hideAll_none _ hin, ho, by intro vs e; rw [hd] at e; cases e⟩, ih fun e he => hs e (.tail _ he)⟩
  obtain ⟨o, es, n, ho, hd, _⟩ := fr_dict F S (l := L) (.head _)
  refine ⟨?_, ⟨L, o, rfl, PySem.W.hideAll_none _ (.head _), ho, by intro vs e; rw [hd] at e; cases e⟩, out outer fun _ h => h⟩
  show scope.kind ≠ .module
  rw [hk]; decide
/-- behind a raise: the frames keep all but their slots -/
theorem Fm.slots (F : Fm W h₀ L none h m led) (S : Stk A outer led) (st : (apart h L outer).StaysIn h') (us : h.UpToSlots h') : Fm W h₀ L none h' m led := by
  have up : ∀ c o, h.get? c = some o → c ∉ L :: frOf outer → h'.get? c = some o := fun c o e n => st c o (PySem.W.hideAll_get _ e n)
  refine ⟨F.gl, let ⟨mm, n, k⟩ := F.ns; ⟨mm, us.ns n, k⟩, fun c o e => up c o (F.keep c o e) fun q => ?_, F.above, (fun _ e => nomatch e), fun q hq => ⟨?_, (F.objs q hq).2⟩⟩
  · obtain ⟨_, _, _, _, _, e'⟩ := fr_dict F S q
    rw [e'] at e; cases e
  · obtain ⟨o, ho, hk⟩ := (F.objs q hq).1
    cases hd : q.2.1.notDat with
    | true =>
      refine ⟨o, up _ _ ho fun z => ?_, hk⟩
      obtain ⟨o', es, n, ho', hd', _⟩ := fr_dict F S z
      rw [ho] at ho'; cases ho'
      exact notDat_data hd hk _ _ hd'
    | false =>
      cases hK : q.2.1 with
      | kD d =>
        rw [hK] at hk
        obtain ⟨e1, es, n, e2⟩ := hk
        obtain ⟨sl, hs⟩ := us _ _ ho (by intro vs e; rw [e1, e2] at e; cases e)
        exact ⟨_, hs, e1, es, n, e2⟩
      | kI ns => rw [hK] at hd; cases hd
      | kP ns => rw [hK] at hd; cases hd
      | kE ns => rw [hK] at hd; cases hd
      | kT ns => rw [hK] at hd; cases hd
      | kS l => rw [hK] at hd; cases hd
      | kR ns => rw [hK] at hd; cases hd

/-- a def is entered whose frame may raise and catch: the same base -/
theorem r_enterH {f : Addr} {nm : Str} {ps : Arguments} {bd : List Stmt} {sc : Scope} {vals : List Value} {Q : Value → Shared → Prop} (F : Fm W h₀ L none h m led) (S : Stk A outer led) (hf : FnRef h₀ f (nm, ps, bd, sc)) (hA : Rm 1 (A.deeper (envOf name scope L a cd)))
    (binds : List (Str × Value))
    (k : ∀ L' h₁ t₁ code d, Fm W h₀ L' none h₁ binds ((L, .kD d, true) :: led) → Stk (A.deeper (envOf name scope L a cd)) (envOf name scope L a cd :: outer) ((L, .kD d, true) :: led) → (∀ g, Is g L (.kD d) → ∃ mm, g.Ns L mm ∧ Knows mm m) →
      wpAny (model prog w) ((A.deeper (envOf name scope L a cd)).deeper (envOf nm sc L' f code)) (execs bd (envOf nm sc L' f code)) (fun fl s' => Q (match fl with | .ret v => v | _ => .none) s') (fun _ _ => False) (St b h₁ t₁))
    (hck : scope.kind = .function := by rfl)
    (hsub : Sub binds binds.reverse := by repeat (first | exact True.intro | refine ⟨rfl, ?_⟩))
    (hbind : ∀ pm code doc, bindArgs (docDef nm ps bd sc pm code doc) ⟨vals, []⟩ = pure binds := by intro _ _ _; rfl)
    (hloc : ∀ x ∈ binds, sc.names.lookup x.1 = some .local := by exact locs rfl)
    (hco : sc.isCoroutine = false := by rfl) (hgen : sc.isGenerator = false := by rfl) (hk : sc.kind = .function := by rfl)
    (hcell : ∀ x ∈ sc.names, x.2 ≠ .cell := by decide) :
    wpAny (model prog w) (A.deeper (envOf name scope L a cd)) (call (.ref f) vals) Q E (St b h t) := by
  obtain ⟨o, pm, code, doc, h2, h3, h4⟩ := hf
  obtain ⟨mm, ⟨oL, es, ep, hL, hLd, hLk, hLf⟩, kn⟩ := F.ns
  refine wpAny_call (call_plain_ret (s := St b h t) (by have := hA.depth; show (A.deeper (envOf name scope L a cd)).depth < 1000; omega) (F.keep _ _ h2) h3 F.glob.nolimit (h4.keeps F.keep) (hbind pm code doc) hloc (fun h₁ F₁ => ?_) hco hgen hk hcell)
  refine wpAny_mono (k h.objs.size h₁ _ code oL.data ⟨F.gl, ⟨_, F₁.ns, fun x v e => hsub.look e⟩, fun c o e => F₁.keep c o (F.keep c o e), Nat.le_trans F.above (Nat.le_of_lt (Heap.lt_size hL)), (fun _ e => nomatch e), fun q hq => ?_⟩ ⟨Around.frames_deeper S.fr, fun env he => ?_⟩ fun g hg => ?_) (fun _ _ q => q) fun _ _ q => q
  · rcases List.mem_cons.mp hq with rfl | hq
    · exact ⟨⟨oL, F₁.keep _ _ hL, rfl, es, ep, hLd⟩, Nat.ne_of_lt (Heap.lt_size hL), (fun _ e => nomatch e), F.fresh⟩
    · have O := F.objs q hq
      obtain ⟨o', ho', hk'⟩ := O.1
      exact ⟨⟨o', F₁.keep _ _ ho', hk'⟩, Nat.ne_of_lt (Heap.lt_size ho'), (fun _ e => nomatch e), O.2.2.2⟩
  · rcases List.mem_cons.mp he with rfl | he
    · exact ⟨by show scope.kind ≠ .module; rw [hck]; decide, L, _, rfl, .head _⟩
    · obtain ⟨k', l, d, hf', hm⟩ := S.ok env he
      exact ⟨k', l, d, hf', .tail _ hm⟩
  · obtain ⟨o', ho', hd', _⟩ := hg
    exact ⟨mm, ⟨o', es, ep, ho', hd'.trans hLd, hLk, hLf⟩, kn⟩
/-- back from such a def -/
theorem Fm.backH {L' : Addr} {dl' : Option (Addr × Kd)} {g : Heap} {m' : List (Str × Value)} {led' : List Ent} {d : Data} (F : Fm W h₀ L none h m led) (hm : ∀ g, Is g L (.kD d) → ∃ mm, g.Ns L mm ∧ Knows mm m) (F' : Fm W h₀ L' dl' g m' led')
    (new : List Ent) (hL : (L, .kD d, true) ∈ led') (hs : ∀ q ∈ led, q ∈ led') (hn : ∀ q ∈ new, q ∈ led') (hnd : (new.all fun q => q.2.1.notDat) = true) : Fm W h₀ L none g m (new ++ led) := by
  have HL := (F'.objs _ hL).1
  refine ⟨F.gl, hm g HL, F'.keep, F.above, (fun _ e => nomatch e), fun q hq => ?_⟩
  rcases List.mem_append.mp hq with hq | hq
  · have O := F'.objs q (hn q hq)
    refine ⟨O.1, fun e => ?_, (fun _ e => nomatch e), O.2.2.2⟩
    obtain ⟨o, ho, hk⟩ := O.1
    obtain ⟨o', ho', hd', es, n, e'⟩ := HL
    simp only at ho'
    rw [e, ho'] at ho; cases ho
    exact notDat_data (List.all_eq_true.mp hnd q hq) hk es n (hd'.trans e')
  · have O := F'.objs q (hs q hq)
    exact ⟨O.1, (F.objs q hq).2.1, (fun _ e => nomatch e), O.2.2.2⟩

/-- a def is entered that may raise -/
theorem r_enterE {dl : Option (Addr × Kd)} {f : Addr} {nm : Str} {ps : Arguments} {bd : List Stmt} {sc : Scope} {vals : List Value} {Q : Value → Shared → Prop} (F : Fm W h₀ L dl h m led) (hf : FnRef h₀ f (nm, ps, bd, sc)) (hA : Rm 1 A)
    (binds : List (Str × Value)) (led₀ : List Ent) (hled : AllIs h led₀)
    (k : ∀ L' h₁ t₁ code, Fm W h L' none h₁ binds led₀ →
      wpAny (model prog w) (A.deeper (envOf nm sc L' f code)) (execs bd (envOf nm sc L' f code)) (fun fl s' => Q (match fl with | .ret v => v | _ => .none) s')
        (fun e s' => wpAny (model prog w) (A.deeper (envOf nm sc L' f code)) (leaving (envOf nm sc L' f code) e) (fun _ s'' => E e s'') (fun e' s'' => E e' s'') s') (St b h₁ t₁))
    (hsub : Sub binds binds.reverse := by repeat (first | exact True.intro | refine ⟨rfl, ?_⟩))
    (hbind : ∀ pm code doc, bindArgs (docDef nm ps bd sc pm code doc) ⟨vals, []⟩ = pure binds := by intro _ _ _; rfl)
    (hloc : ∀ x ∈ binds, sc.names.lookup x.1 = some .local := by exact locs rfl)
    (hco : sc.isCoroutine = false := by rfl) (hgen : sc.isGenerator = false := by rfl) (hk : sc.kind = .function := by rfl)
    (hcell : ∀ x ∈ sc.names, x.2 ≠ .cell := by decide) :
    wpAny (model prog w) A (call (.ref f) vals) Q E (St b h t) := by
  obtain ⟨o, pm, code, doc, h2, h3, h4⟩ := hf
  have hfr : h.get? h.objs.size = none := new_none h
  refine wpAny_call (call_plain (s := St b h t) (by have := hA.depth; show A.depth < 1000; omega) (F.keep _ _ h2) h3 F.glob.nolimit (h4.keeps F.keep) (hbind pm code doc) hloc (fun h₁ F₁ => ?_) hco hgen hk hcell)
  refine wpAny_mono (k _ h₁ _ code ⟨F.glob, ⟨_, F₁.ns, fun x v e => hsub.look e⟩, F₁.keep, F₁.above, (fun _ e => nomatch e), fun q hq => ?_⟩) (fun _ _ q => q) fun _ _ q => q
  have hi := hled.mem hq
  refine ⟨hi.1.keeps F₁.keep, fun e => ?_, (fun _ e => nomatch e), by unfold Home; rw [hi.2]; exact hi.1⟩
  obtain ⟨o', ho', _⟩ := hi.1
  rw [e] at ho'
  rw [hfr] at ho'; cases ho'
/-- raise X('..') out of the frame; hB: the caller's heap -/
theorem x_raise {hB base : Heap} {l : List Env} {dl : Option (Addr × Kd)} {cls newId initId : String} (FC : ExcCallFacts cls newId initId) (FR : ExcRaiseFacts cls) {x : Str} {msg : Str} {np cp cpos pos : Pos} {kk : Nat} {Q : Flow → Shared → Prop} {E : Value → Shared → Prop}
    (hv : bootBuiltins x = some (.type cls)) (F : Fm W hB L dl h m led) (hx : x ∈ W.bn) (hh : A.handled = none) (hA : A.frames = some l) (hb : base.StaysIn hB) (hfun : hB.FunFrames base l)
    (k : ∀ e a0 h₄ t₄, Heap.FlyingW base l e (.type cls) a0 h₄ → hB.UpToSlots h₄ → E (.ref e) (St b h₄ t₄))
    (he : starEach [.Constant (.str msg) kk cp] (envOf name scope L a cd) = (false, eval (.Constant (.str msg) kk cp) (envOf name scope L a cd)) :: starEach [] (envOf name scope L a cd) := by rfl)
    (hne : x ≠ "__name__" := by decide) (hk : scope.kind = .function := by rfl) (hl : (envOf name scope L a cd).kindOf x = some .globalImplicit := by rfl) (hn : (x == ("__debug__" : Str)) = false := by decide) :
    wpAny (model prog w) (A.deeper (envOf name scope L a cd)) (exec (.Raise (some (.Call (.Name x np) [.Constant (.str msg) kk cp] [] cpos)) none pos) (envOf name scope L a cd)) Q
      (fun e s' => wpAny (model prog w) (A.deeper (envOf name scope L a cd)) (leaving (envOf name scope L a cd) e) (fun _ s'' => E e s'') (fun e' s'' => E e' s'') s') (St b h t) := by
  refine Raise_madeB FC FR hh (r_bi F hx hv ⟨rfl, args_cons (x_str fun u t' => args_nil ⟨by show 1 ≤ sizeLine; unfold sizeLine; decide, fun h' e made => ?_⟩) he⟩ hne hk hl hn) he
  have hbh : base.StaysIn h := fun c o q => F.keep c o (hb c o q)
  have hfr : h.FunFrames base (envOf name scope L a cd :: l) := by
    obtain ⟨mm, ns, _⟩ := F.ns
    refine .cons (by show scope.kind ≠ .module; rw [hk]; decide) rfl ns ?_ (hfun.of_keeps fun c o q _ => ⟨o, F.keep c o q, rfl⟩)
    cases q : base.get? L with
    | none => rfl
    | some o => have := hb L o q; rw [F.fresh] at this; cases this
  exact wpAny_leaves_madeW (Around.frames_deeper hA) rfl hbh hfr made.of fun h₄ tt x1 x2 x3 x4 =>
    k e (.ref tt) h₄ _ x1 (((Heap.UpToSlots.of_keeps F.keep).trans (Heap.UpToSlots.of_keeps made.keeps)).trans x4)

/-- the frame's own except takes it -/
theorem r_caught {h₁ : Heap} {e : Addr} {a0 : Value} {X T : String} {x : Str} {np pos : Pos} {b₀ : Stmt} {suite : List Stmt} {rest : List ExceptHandler} {Q : Flow → Shared → Prop}
    (hexc : isSubtype (.type T) (.type "BaseException") = pure true) (hnt : isSubtype (.type ((Manifest.find? T).elim "type" fun y => y.metatype)) (.type "tuple") = pure false) (hsubT : isSubtype (.type X) (.type T) = pure true)
    (hv : bootBuiltins x = some (.type T))
    (F : Fm W h₀ L none h m led) (S : Stk A outer led) (hfl : Heap.FlyingW (apart h L outer) (envOf name scope L a cd :: outer) e (.type X) a0 h₁) (us : h.UpToSlots h₁) (hx : x ∈ W.bn)
    (k : ∀ h', Fm W h₀ L none h' m led → wpAny (model prog w) ((A.deeper (envOf name scope L a cd)).mark (some (.ref e))) (execs (b₀ :: suite) (envOf name scope L a cd)) Q (fun _ _ => False) (St b h' t))
    (hne : x ≠ "__name__" := by decide) (hk : scope.kind = .function := by rfl) (hl : (envOf name scope L a cd).kindOf x = some .globalImplicit := by rfl) (hn : (x == ("__debug__" : Str)) = false := by decide) :
    wpAny (model prog w) (A.deeper (envOf name scope L a cd)) (noteFrame (.ref e) (envOf name scope L a cd))
      (fun _ s₂ => wpAny (model prog w) (A.deeper (envOf name scope L a cd)) (setFlight (.ref e) none) (fun _ s₃ =>
        wpAny (model prog w) (A.deeper (envOf name scope L a cd)) (handleBy (.ref e) (envOf name scope L a cd) (.ExceptHandler (some (.Name x np)) none (b₀ :: suite) pos :: rest)) Q E s₃) E s₂) E (St b h₁ t) := by
  refine wpAny_looks_onW (s := St b h₁ t) (Around.frames_deeper S.fr) rfl hfl fun h₂ hheld us₂ => ?_
  refine wpAny_landsW hheld fun h₃ hfl₃ us₃ => ?_
  have us03 := (us.trans us₂).trans us₃
  have F₃ := F.slots S hfl₃.1 us03
  obtain ⟨ob, hob, hobc⟩ := hfl₃.there
  refine wpAny_handleBy_builtin (X := X) (T := T) (b := true) hexc hnt hsubT (r_bi (b := b) (h := h₃) (t := t) F₃ hx hv ⟨rfl, ⟨ob, hob, hobc⟩, ?_⟩ hne hk hl hn)
  refine lands_againW (s := St b h₃ t) hfl₃ fun h₄ hfl₄ us₄ => ?_
  exact wpAny_mono (k h₄ (F.slots S hfl₄.1 (us03.trans us₄))) (fun _ _ q => q) fun _ _ q => q.elim
end
end Mine
namespace Mine
open PySem PySem.Calls PyProof.Rows

theorem Rm.u {n : Nat} {A : Around} (r : Rm n A) : A.units + 64 < cLine := by have := r.units; show A.units + 64 < 9900; omega
abbrev lint (ns : List Int) : PyData := .list (ns.map .int)
def Rd (h : Heap) (v : Value) (d : PyData) : Prop := ∃ as, Reads h v d as
def RdAll (h : Heap) (vs : List Value) (ds : List PyData) : Prop := ∃ as, ReadsAll h vs ds as
theorem RdAll.nil {h : Heap} : RdAll h [] [] := ⟨_, .nil⟩
theorem RdAll.cons {h : Heap} {v : Value} {vs : List Value} {d : PyData} {ds : List PyData} (x : Rd h v d) (y : RdAll h vs ds) : RdAll h (v :: vs) (d :: ds) := let ⟨_, a⟩ := x; let ⟨_, b⟩ := y; ⟨_, .cons a b⟩
theorem Rd.int {h : Heap} (i : Int) (u : Tok) : Rd h (.int i u) (.int i) := ⟨_, .int i u⟩
theorem Rd.str {h : Heap} (x : Str) (u : Tok) : Rd h (.str x u) (.str x) := ⟨_, .str x u⟩
theorem Rd.il {h : Heap} {a : Addr} {ns : List Int} (x : Is h a (.kI ns)) : Rd h (.ref a) (lint ns) := by
  obtain ⟨vs, hl, hi⟩ := x.list
  exact ⟨_, PySem.W.reads_of_ints hl hi⟩
theorem Rd.tup {h : Heap} {a : Addr} {vs : List Value} {ds : List PyData} (x : Is h a (.kT vs)) (y : RdAll h vs ds) : Rd h (.ref a) (.tuple ds) := by
  obtain ⟨o, ho, n, c, d⟩ := x
  obtain ⟨as, r⟩ := y
  exact ⟨as, .tuple ho c d (by simpa using r)⟩
theorem lay_ints (ns : List Int) : (lint ns).canLay0 = true := by simp [PyData.canLay0, PySem.W.canLayAll0_ints]
theorem depth_ints (ns : List Int) : (lint ns).depth ≤ 2 := by
  have := PySem.W.depthAll_ints ns
  simp only [PyData.depth]; omega
/-- the data that the laws compare -/
inductive Plain : PyData → Prop
  | int (i : Int) : Plain (.int i)
  | str (x : Str) (hx : (PyData.str x).canLay0 = true) : Plain (.str x)
  | lst (ns : List Int) : Plain (lint ns)
theorem Plain.lay {d : PyData} (p : Plain d) : d.canLay0 = true ∧ d.depth ≤ 2 := by
  cases p with
  | int i => exact ⟨rfl, by simp [PyData.depth]⟩
  | str x hx => exact ⟨hx, by simp [PyData.depth]⟩
  | lst ns => exact ⟨lay_ints ns, depth_ints ns⟩
theorem plain_all : ∀ {ds : List PyData}, (∀ d ∈ ds, Plain d) → PyData.canLayAll0 ds = true ∧ PyData.depthAll ds ≤ 3
  | [], _ => ⟨rfl, by simp [PyData.depthAll]⟩
  | d :: r, h => by
    have a := (h d (.head _)).lay
    have b := plain_all fun e he => h e (.tail _ he)
    refine ⟨by simp [PyData.canLayAll0, a.1, b.1], ?_⟩
    simp only [PyData.depthAll]; omega
theorem tup_lay {ds : List PyData} (h : ∀ d ∈ ds, Plain d) : (PyData.tuple ds).canLay0 = true ∧ (PyData.tuple ds).depth ≤ 64 := by
  have b := plain_all h
  refine ⟨by simp [PyData.canLay0, b.1], ?_⟩
  simp only [PyData.depth]; omega
section
variable {W : Wd} {prog : Program} {w : World} {M : Model} {A : Around} {E : Value → Shared → Prop} {b : Shared} {h₀ h : Heap} {L a : Addr} {dl : Option (Addr × Kd)} {t : Nat}
  {m : List (Str × Value)} {led : List Ent} {name : Str} {scope : Scope} {cd : Value} {Q : Value → Shared → Prop} {v v' : Value} {d d' : PyData}
theorem x_neD (x : Rd h v d) (y : Rd h v' d') (ha : d.canLay0 = true ∧ d.depth ≤ 64) (hb : d'.canLay0 = true ∧ d'.depth ≤ 64) (hu : A.units + 64 < cLine) (q : Q (.bool (!PyData.eqv d d')) (St b h t)) :
    wpAny (model prog w) A (compareOp .NotEq v v') Q E (St b h t) := by
  obtain ⟨_, x⟩ := x
  obtain ⟨_, y⟩ := y
  exact SeqAt.compareNe_shaped (s := St b h t) x y (by simp [SeqAt.shaped, ha.1, ha.2]) (by simp [SeqAt.shaped, hb.1, hb.2]) hu q
theorem x_eqD (x : Rd h v d) (y : Rd h v' d') (ha : d.canLay0 = true ∧ d.depth ≤ 64) (hb : d'.canLay0 = true ∧ d'.depth ≤ 64) (hu : A.units + 64 < cLine) (q : Q (.bool (PyData.eqv d d')) (St b h t)) :
    wpAny (model prog w) A (compareOp .Eq v v') Q E (St b h t) := by
  obtain ⟨_, x⟩ := x
  obtain ⟨_, y⟩ := y
  exact SeqAt.compareEq_shaped (s := St b h t) x y (by simp [SeqAt.shaped, ha.1, ha.2]) (by simp [SeqAt.shaped, hb.1, hb.2]) hu q
/-- the same data on both sides -/
theorem x_neSame (x : Rd h v d) (y : Rd h v' d) (ha : d.canLay0 = true ∧ d.depth ≤ 64) (hu : A.units + 64 < cLine) (q : Q (.bool false) (St b h t)) :
    wpAny (model prog w) A (compareOp .NotEq v v') Q E (St b h t) := x_neD x y ha ha hu (by rw [SeqAt.eqv_refl d ha.1]; exact q)
/-- two lists of ints -/
theorem x_neI {l l' : Addr} {ns ms : List Int} (x : Is h l (.kI ns)) (y : Is h l' (.kI ms)) (hu : A.units + 64 < cLine) (q : Q (.bool (!decide (ns = ms))) (St b h t)) : wpAny (model prog w) A (compareOp .NotEq (.ref l) (.ref l')) Q E (St b h t) := by
  obtain ⟨vs, hl, hi⟩ := x.list
  obtain ⟨vs', hl', hi'⟩ := y.list
  exact PySem.W.ne_intsK (s := St b h t) hl hi hl' hi' hu q
theorem x_type {T : String} (hT : (St b h t).TypeIs v T) (hn : (Value.type T == Value.type "builtin_function_or_method") = false) (q : Q (.type T) (St b h t)) : wpAny (model prog w) A (call (.type "type") [v]) Q E (St b h t) := call_type_of hT hn q
theorem x_typeI {i : Int} {u : Tok} (q : Q (.type "int") (St b h t)) : wpAny (model prog w) A (call (.type "type") [.int i u]) Q E (St b h t) := x_type rfl (by decide) q
theorem x_isT {T U : String} {c : Bool} (hc : (Value.type T == Value.type U) = c) (q : Q (.bool c) (St b h t)) : wpAny M A (compareOp .Is (.type T) (.type U)) Q E (St b h t) := wpAny_is_plain rfl (by rw [hc]; exact q)
theorem bb_type : bootBuiltins "type" = some (.type "type") := by decide +kernel
theorem bb_int : bootBuiltins "int" = some (.type "int") := by decide +kernel
theorem bb_str : bootBuiltins "str" = some (.type "str") := by decide +kernel
/-- unpacking a tuple -/
theorem x_unpack {elts : List Expr} {x1 : Nat} {pos : Pos} {r : Addr} {vs : List Value} {Q : Unit → Shared → Prop} (F : Fm W h₀ L dl h m led) (x : Is h r (.kT vs)) (hh : A.handled = none)
    (q : ∀ h', Fm W h₀ L dl h' m led → wpAny (model prog w) A (assignInOrder ((assignEach elts (envOf name scope L a cd)).map (·.2)) vs) Q E (St b h' t))
    (hn : (assignEach elts (envOf name scope L a cd)).length = vs.length := by rfl) (hstar : (assignEach elts (envOf name scope L a cd)).findIdx? (·.1) = none := by rfl) :
    wpAny (model prog w) A (assign (.Tuple elts x1 pos) (envOf name scope L a cd) (.ref r)) Q E (St b h t) := by
  refine wpAny_assign_Tuple (s := St b h t) hh x.tuple (by rw [hn]; simp) hstar fun h' he => q h' (F.after fun c o e => he c o (fun z => ?_) e)
  rw [z] at e
  have := new_none h
  rw [show (St b h t).heap.objs.size = h.objs.size from rfl, this] at e; cases e
theorem pow_fits {i j : Int} (h0 : 0 ≤ i) (h1 : i < 18446744073709551616) (h2 : 0 ≤ j) (h3 : j ≤ 1000) : (Builtin.Int.intBits i : Int) * j ≤ 2 ^ 27 := by
  have hb : Builtin.Int.intBits i ≤ 64 := intBits_le_64 (by omega) (by omega)
  have h4 : (Builtin.Int.intBits i : Int) * j ≤ 64 * 1000 := Int.le_trans (Int.mul_le_mul_of_nonneg_right (by omega) h2) (Int.mul_le_mul_of_nonneg_left h3 (by decide))
  omega
end
section
variable {W : Wd} {prog : Program} {w : World} {M : Model} {A : Around} {E : Value → Shared → Prop} {b : Shared} {h₀ h : Heap} {L a : Addr} {dl : Option (Addr × Kd)} {t : Nat}
  {m : List (Str × Value)} {led : List Ent} {name : Str} {scope : Scope} {cd : Value} {R : Result → Shared → Prop} {body : List Stmt} {target : Expr}
/-- for TARGET in l, l a tuple -/
theorem r_tup {σ : Type} {l : Addr} {vs : List Value} {nl : Bool} {led₁ : List Ent} {m₁ : List (Str × Value)} (F : Fm W h₀ L dl h m₁ led₁) (hr : (l, .kT vs, nl) ∈ led₁) (hA : A.handled = none)
    (dlO : σ → Option (Addr × Kd)) (mO : σ → List (Str × Value)) (newO : σ → List Ent) (led : List Ent) (J : Nat → σ → Prop) (c₀ : σ)
    (hd : dl = dlO c₀) (hm : Sub (mO c₀) m₁) (hl : ∀ q ∈ newO c₀ ++ led, q ∈ led₁) (hnew : ∀ c, ∀ q ∈ newO c, q.2.1.notRaw = true) (hJ : J 0 c₀)
    (turn : ∀ j c v h t o I oX (E' : Value → Shared → Prop), j < vs.length → vs[j]? = some v → J j c → Fm W h₀ L (dlO c) h (mO c) ((I, .kR o, true) :: (l, .kR oX, nl) :: (newO c ++ led)) →
      wpAny (model prog w) A (assign target (envOf name scope L a cd) v) (fun _ s₂ => wpAny (model prog w) A (execs body (envOf name scope L a cd)) (TurnPost W h₀ L b dlO mO (fun c' => (I, .kR o, true) :: (l, .kR oX, nl) :: (newO c' ++ led)) (J (j + 1)) (fun f s' => R (.ok f) s')) E' s₂) E' (St b h t))
    (done : ∀ c h t, J vs.length c → Fm W h₀ L (dlO c) h (mO c) (newO c ++ led) → R (.ok .next) (St b h t))
 :
    wpAny (model prog w) A (pyIter (.ref l)) (fun it s₂ => codeAny (model prog w) A (.forLoop target it body [] (envOf name scope L a cd)) R s₂) E (St b h t) := by
  have O := F.objs _ hr
  obtain ⟨ol, hol, nn, hc, hdt⟩ := id O.1
  have hlist : h.IsTuple l vs.toArray := ⟨ol, hol, hc, nn, hdt⟩
  subst hd
  refine wpAny_pyIter_tuple (s := St b h t) hlist ?_
  have F₁ := (F.wk hm hl).after (push_stays h { cls := .type "tuple_iterator", data := .fields #[.ref l, .int 0 0] })
  have hne : l ≠ h.objs.size := Nat.ne_of_lt (Heap.lt_size hol)
  have Wk := Walks.tuple (prog := prog) (w := w) hA h.objs.size l hne vs.toArray
  rw [List.size_toArray] at Wk
  refine r_walk (h := h.push _) (I := h.objs.size) (ax := l) (oX := ol) (nX := nl) (oI := { cls := .type "tuple_iterator", data := .fields #[.ref l, .int 0 0] }) Wk (fun c hc => by simpa using hc) hne dlO mO newO J c₀ F₁ ?_ (none_of F.keep (new_none h)) ?_ ?_ (Heap.get?_push_size _ rfl) (Heap.get?_push_of_some _ hol) O.2.1 O.2.2.1 ?_ ?_ ?_ ?_ (by intro es n e; rw [hdt] at e; cases e) ?_ hnew hJ ?_ done (fun _ _ _ _ _ st q => letGo_tupleiter st.1 q)
  · exact ⟨⟨_, Heap.get?_push_size _ rfl, rfl, rfl⟩, hlist.push _⟩
  · obtain ⟨o, ho⟩ := F.lget; exact Ne.symm (Nat.ne_of_lt (Heap.lt_size ho))
  · intro d e
    obtain ⟨o, ho, _⟩ := (F.own d e).2.2; exact Ne.symm (Nat.ne_of_lt (Heap.lt_size ho))
  · have H := O.2.2.2
    cases nl with
    | true => exact H
    | false =>
      obtain ⟨o', ho', _⟩ := H
      have := F.keep _ _ ho'
      simp only at this
      rw [hol] at this; cases this
      exact ⟨_, ho', rfl, by intro es n e; rw [hdt] at e; cases e⟩
  · constructor <;> (intro e; simp at e)
  · intro i h o st e
    obtain ⟨⟨o', ho', hc', _⟩, _⟩ := st
    have e' := ho'.symm.trans e
    cases e'; exact hc'
  · intro i h st
    obtain ⟨⟨o', ho', _, hd'⟩, _⟩ := st
    exact ⟨_, ho', by intro es n e; rw [hd'] at e; cases e⟩
  · intro q hq
    obtain ⟨o, ho, _⟩ := (F.objs q (hl q (List.mem_append_right _ hq))).1
    exact Nat.ne_of_lt (Heap.lt_size ho)
  · rintro i c v h' t' o E' hi' hP hJ' F'
    exact turn i c v h' t' o _ ol E' hi' (by simpa using hP) hJ' F'
end
end Mine
namespace Mine
open PySem PySem.Calls PyProof.Rows

section
variable {W : Wd} {prog : Program} {w : World} {M : Model} {A : Around} {E : Value → Shared → Prop} {b : Shared} {h₀ h : Heap} {L a : Addr} {dl : Option (Addr × Kd)} {t : Nat}
  {m : List (Str × Value)} {led : List Ent} {name : Str} {scope : Scope} {cd : Value} {R : Result → Shared → Prop} {body : List Stmt} {target : Expr}
end

theorem up_cons {l l' : List Ent} {x : Ent} (h : ∀ q ∈ l, q ∈ l') : ∀ q ∈ l, q ∈ x :: l' := fun q hq => .tail _ (h q hq)
theorem ite_nt {P Q : Prop} (h : Q) : if (!true) = true then P else Q := h
theorem Fm.some {W : Wd} {h₀ h : Heap} {L : Addr} {dl : Option (Addr × Kd)} {m : List (Str × Value)} {led l : List Ent} (F : Fm W h₀ L dl h m led) (s : ∀ q ∈ l, q ∈ led) : ∀ q ∈ l, Is h q.1 q.2.1 := fun q hq => (F.objs q (s q hq)).1
/-- back from a call: all that is new -/
theorem Fm.backs {W : Wd} {h₀ h : Heap} {L : Addr} {dl : Option (Addr × Kd)} {m m' : List (Str × Value)} {led led' : List Ent} {L' : Addr} {dl' : Option (Addr × Kd)} {g : Heap} (F : Fm W h₀ L dl h m led) (F' : Fm W h L' dl' g m' led') :
    ∀ (new : List Ent), (∀ q ∈ new, q ∈ led') → (new.all fun q => q.2.2) = true → Fm W h₀ L dl g m (new ++ led)
  | [], _, _ => F.back0 F'
  | (r, K, nw) :: rest, hs, ha => by
    rw [List.all_cons, Bool.and_eq_true] at ha
    obtain rfl : nw = true := ha.1
    have G := Fm.backs F F' rest (fun q hq => hs q (.tail _ hq)) ha.2
    have G' := F.back F' (hs _ (.head _))
    exact ⟨G.gl, G.ns, G.keep, G.above, G.own, fun p hp => by
      rcases List.mem_cons.mp hp with rfl | hp
      · exact G'.objs _ (.head _)
      · exact G.objs p hp⟩
theorem Fm.swap {W : Wd} {h₀ h : Heap} {L : Addr} {dl : Option (Addr × Kd)} {m : List (Str × Value)} {l led : List Ent} (F : Fm W h₀ L dl h m (l ++ led)) : Fm W h₀ L dl h m (led ++ l) :=
  F.wkl fun _ hq => (List.mem_append.mp hq).elim (fun h => List.mem_append_right _ h) fun h => List.mem_append_left _ h
/-- two lists of the same ints -/
theorem x_neQ {prog : Program} {w : World} {A : Around} {E : Value → Shared → Prop} {b : Shared} {h : Heap} {t : Nat} {Q : Value → Shared → Prop} {l l' : Addr} {ns : List Int} (x : Is h l (.kI ns)) (y : Is h l' (.kI ns)) (hu : A.units + 64 < cLine) (q : Q (.bool false) (St b h t)) :
    wpAny (model prog w) A (compareOp .NotEq (.ref l) (.ref l')) Q E (St b h t) := x_neI x y hu (by rw [decide_eq_true rfl]; exact q)

/-- a def of the text -/
def defOf : Stmt → Option (Str × Arguments × List Stmt × Scope)
  | .FunctionDef name args body _ _ _ scope _ _ _ => some (name, args, body, scope)
  | _ => none
theorem defAt_mem {p : Program} {i : Nat} {d : Str × Arguments × List Stmt × Scope} (h : defAt p i = some d) : d ∈ p.main.body.filterMap defOf := by
  unfold defAt at h
  cases e : p.main.body[i]? with
  | none => rw [e] at h; cases h
  | some st =>
    rw [e] at h
    refine List.mem_filterMap.mpr ⟨st, List.mem_of_getElem? e, ?_⟩
    cases st <;> first | exact h | cases h
/-- the globals behind the head -/
theorem gl_of {p V : Program} {bn : List Str} {tabs : List (Str × List Int)} {stabs : List (Str × List Str)} {loose : List Str} {mean : ExcName → Option Value} {mg mb : Str → Option Value} {w : World} {h : Heap} (T : Top V loose mean mg mb h) (B : Tables V w mg h)
    (hrec : (recsOf V).map (fun d => (d.name, d.params, d.body, d.scope)) = p.main.body.filterMap defOf)
    (hbase : valOf V "BASE" = some (.int 10000))
    (hfree : (bn.all fun x => !startupNames.contains x && !loose.contains x && !((recsOf V).map (·.name)).contains x && !((litsOf V).map (·.1)).contains x && !((clssOf V loose).map (·.name)).contains x) = true)
    (htab : tabs.map (fun q => tupIntsOf V q.1) = tabs.map fun q => some q.2) (hstab : stabs.map (fun q => tupStrsOf V q.1) = stabs.map fun q => some q.2) : Gl p bn tabs stabs mg mb h where
  g := T.g
  b := T.b
  bi := T.builtins
  nolimit := T.nolimit
  fn := fun i d e => by
    have := defAt_mem e
    rw [← hrec] at this
    obtain ⟨r, hr, rfl⟩ := List.mem_map.mp this
    exact T.fn r hr
  base := by
    obtain ⟨v, hv, hr⟩ := T.const _ _ hbase
    have := hr h
    cases this
    exact ⟨_, hv⟩
  free := fun x hx => by
    have := List.all_eq_true.mp hfree x hx
    simp only [Bool.and_eq_true, Bool.not_eq_true', List.contains_eq_mem, decide_eq_false_iff_not] at this
    obtain ⟨⟨⟨⟨h1, h2⟩, h3⟩, h4⟩, h5⟩ := this
    exact T.free x h1 h2 h3 h4 h5
  tab := fun q hq => by
    have e : tupIntsOf V q.1 = some q.2 := List.map_inj_left.mp htab q hq
    obtain ⟨a, vs, h1, ⟨o, ho, hc, n, hd⟩, h3⟩ := B.tupI _ _ e
    exact ⟨a, vs, h1, ⟨o, ho, n, hc, hd⟩, h3⟩
  stab := fun q hq => by
    have e : tupStrsOf V q.1 = some q.2 := List.map_inj_left.mp hstab q hq
    obtain ⟨a, vs, h1, ⟨o, ho, hc, n, hd⟩, h3⟩ := B.tupS _ _ e
    exact ⟨a, vs, h1, ⟨o, ho, n, hc, hd⟩, h3⟩
def ixIn (x : Str) : List Stmt → Nat
  | [] => 0
  | st :: r => match defOf st with
    | some d => if d.1 = x then 0 else ixIn x r + 1
    | none => ixIn x r + 1
theorem r_callN {W : Wd} {M : Model} {A : Around} {E : Value → Shared → Prop} {b : Shared} {h₀ h : Heap} {L a : Addr} {dl : Option (Addr × Kd)} {t : Nat} {m : List (Str × Value)} {led : List Ent} {name : Str} {scope : Scope} {cd : Value}
    {x : Str} {e : Expr} {rest : List Expr} {pos pos' : Pos} {Q : Value → Shared → Prop} (F : Fm W h₀ L dl h m led) {d : Str × Arguments × List Stmt × Scope} (hd : defAt W.p (ixIn x W.p.main.body) = some d) (hx : d.1 = x)
    (k : ∀ f, FnRef h₀ f d → wpAny M A (spliced (backTo pos (starEach (e :: rest) (envOf name scope L a cd)))) (fun vs s₁ => Stays h₀ s₁.heap ∧ wpAny M A (call (.ref f) vs) Q E s₁) E (St b h t))
    (he : starEach (e :: rest) (envOf name scope L a cd) = (false, eval e (envOf name scope L a cd)) :: starEach rest (envOf name scope L a cd) := by rfl)
    (he2 : eval (.Call (.Name x pos') (e :: rest) [] pos) (envOf name scope L a cd) = (do callWith pos (← eval (.Name x pos') (envOf name scope L a cd)) [] (backTo pos (starEach (e :: rest) (envOf name scope L a cd))) (backToKw pos (keywordEach [] (envOf name scope L a cd)))) := by rfl)
    (hk : scope.kind = .function := by rfl) (hl : (envOf name scope L a cd).kindOf x = some .globalImplicit := by rfl) (hn : (x == ("__debug__" : Str)) = false := by decide) :
    wpAny M A (eval (.Call (.Name x pos') (e :: rest) [] pos) (envOf name scope L a cd)) Q E (St b h t) := r_call F _ hd hx k he he2 hk hl hn
section
variable {W : Wd} {prog : Program} {w : World} {M : Model} {A : Around} {E : Value → Shared → Prop} {b : Shared} {h₀ h : Heap} {L a : Addr} {dl : Option (Addr × Kd)} {t : Nat}
  {m : List (Str × Value)} {led : List Ent} {name : Str} {scope : Scope} {cd : Value} {env : Env} {s : Shared}
/-- several steps at once -/
theorem execs_asg {x : Str} {p pos : Pos} {e : Expr} {rest : List Stmt} {Q : Flow → Shared → Prop} (q : wpAny M A (eval e env) (fun v s' => wpAny M A (storeName env x v) (fun _ s'' => wpAny M A (execs rest env) Q E s'') E s') E s)
    (hs : swapsWith e (some (.Name x p)) pos.line env = pure false := by rfl) :
    wpAny M A (execs (.Assign [.Name x p] e pos :: rest) env) Q E s := wpAny_execs_cons (wpAny_Assign_Name q hs)
theorem execs_ifC {l r : Expr} {op : CmpOp} {p pos : Pos} {body orelse rest : List Stmt} {Q : Flow → Shared → Prop}
    (q : wpAny M A (eval l env) (fun v s₁ => wpAny M A (eval r env) (fun v' s₂ => wpAny M A (compareOp op v v') (fun x s₃ => wpAny M A (truthy x) (fun c s₄ => if c = true then wpAny M A (execs body env) (fun f s' => match f with | .next => wpAny M A (execs rest env) Q E s' | f => Q f s') E s₄ else wpAny M A (execs orelse env) (fun f s' => match f with | .next => wpAny M A (execs rest env) Q E s' | f => Q f s') E s₄) E s₃) E s₂) E s₁) E s)
    (hm : behindInMarks op r = false := by with_unfolding_all rfl) :
    wpAny M A (execs (.If (.Compare l [op] [r] p) body orelse pos :: rest) env) Q E s := wpAny_execs_cons (wpAny_If (wpAny_isTrue_Compare1 q hm))
theorem x_ifNe {x : Str} {p p' p'' pos : Pos} {kk : Nat} {c i : Int} {u : Tok} {body rest : List Stmt} {Q : Flow → Shared → Prop} (F : Fm W h₀ L dl h m led) (hx : m.lookup x = some (.int i u)) (hc : ¬ i = c)
    (q : ∀ t', wpAny (model prog w) A (execs rest (envOf name scope L a cd)) Q E (St b h t'))
    (hk : scope.kind = .function := by rfl) (hl : (envOf name scope L a cd).kindOf x = some .local := by rfl) (hd : (x == ("__debug__" : Str)) = false := by decide) :
    wpAny (model prog w) A (execs (.If (.Compare (.Name x p) [.Eq] [.Constant (.int c) kk p'] p'') body [] pos :: rest) (envOf name scope L a cd)) Q E (St b h t) :=
  wpAny_execs_cons (wpAny_If (wpAny_isTrue_Compare1 (r_loc F hx (x_int fun _ t' => P.eq_int (wpAny_truthy_bool (ite_beq (fun q' => absurd q' hc) (fun _ => wpAny_execs_nil (q t'))))) hk hl hd)))
theorem x_ifEq {x : Str} {p p' p'' pos : Pos} {kk : Nat} {c i : Int} {u : Tok} {body orelse rest : List Stmt} {Q : Flow → Shared → Prop} (F : Fm W h₀ L dl h m led) (hx : m.lookup x = some (.int i u)) (hc : i = c)
    (q : ∀ t', wpAny (model prog w) A (execs body (envOf name scope L a cd)) (fun f s' => match f with | .next => wpAny (model prog w) A (execs rest (envOf name scope L a cd)) Q E s' | f => Q f s') E (St b h t'))
    (hk : scope.kind = .function := by rfl) (hl : (envOf name scope L a cd).kindOf x = some .local := by rfl) (hd : (x == ("__debug__" : Str)) = false := by decide) :
    wpAny (model prog w) A (execs (.If (.Compare (.Name x p) [.Eq] [.Constant (.int c) kk p'] p'') body orelse pos :: rest) (envOf name scope L a cd)) Q E (St b h t) :=
  wpAny_execs_cons (wpAny_If (wpAny_isTrue_Compare1 (r_loc F hx (x_int fun _ t' => P.eq_int (wpAny_truthy_bool (ite_beq (fun _ => q t') (fun q' => absurd hc q')))) hk hl hd)))
theorem args_loc {x : Str} {p pos : Pos} {rest : List Expr} {v : Value} {Q : List Value → Shared → Prop} (F : Fm W h₀ L dl h m led) (hx : m.lookup x = some v)
    (q : wpAny M A (spliced (backTo pos (starEach rest (envOf name scope L a cd)))) (fun vs s' => Q (v :: vs) s') E (St b h t))
    (hk : scope.kind = .function := by rfl) (hl : (envOf name scope L a cd).kindOf x = some .local := by rfl) (hd : (x == ("__debug__" : Str)) = false := by decide)
    (he : starEach (.Name x p :: rest) (envOf name scope L a cd) = (false, eval (.Name x p) (envOf name scope L a cd)) :: starEach rest (envOf name scope L a cd) := by rfl) :
    wpAny M A (spliced (backTo pos (starEach (.Name x p :: rest) (envOf name scope L a cd)))) Q E (St b h t) := args_cons (r_loc F hx q hk hl hd) he
theorem r_callL1 {x y0 : Str} {p0 pos pos' : Pos} {v0 : Value} {Q : Value → Shared → Prop} (F : Fm W h₀ L dl h m led) {d : Str × Arguments × List Stmt × Scope} (hd : defAt W.p (ixIn x W.p.main.body) = some d) (hx : d.1 = x) (hy0 : m.lookup y0 = some v0)
    (q : ∀ f, FnRef h₀ f d → Stays h₀ h ∧ wpAny M A (call (.ref f) [v0]) Q E (St b h t))
    (he : starEach [.Name y0 p0] (envOf name scope L a cd) = (false, eval (.Name y0 p0) (envOf name scope L a cd)) :: starEach [] (envOf name scope L a cd) := by rfl)
    (he2 : eval (.Call (.Name x pos') [.Name y0 p0] [] pos) (envOf name scope L a cd) = (do callWith pos (← eval (.Name x pos') (envOf name scope L a cd)) [] (backTo pos (starEach [.Name y0 p0] (envOf name scope L a cd))) (backToKw pos (keywordEach [] (envOf name scope L a cd)))) := by rfl)
    (hk : scope.kind = .function := by rfl) (hl : (envOf name scope L a cd).kindOf x = some .globalImplicit := by rfl) (hn : (x == ("__debug__" : Str)) = false := by decide)
    (hl0 : (envOf name scope L a cd).kindOf y0 = some .local := by rfl) (hd0 : (y0 == ("__debug__" : Str)) = false := by decide) :
    wpAny M A (eval (.Call (.Name x pos') [.Name y0 p0] [] pos) (envOf name scope L a cd)) Q E (St b h t) :=
  r_callN F hd hx (fun f hf => args_loc F hy0 (args_nil (q f hf)) hk hl0 hd0) he he2 hk hl hn
theorem r_callL2 {x y0 y1 : Str} {p0 p1 pos pos' : Pos} {v0 v1 : Value} {Q : Value → Shared → Prop} (F : Fm W h₀ L dl h m led) {d : Str × Arguments × List Stmt × Scope} (hd : defAt W.p (ixIn x W.p.main.body) = some d) (hx : d.1 = x) (hy0 : m.lookup y0 = some v0) (hy1 : m.lookup y1 = some v1)
    (q : ∀ f, FnRef h₀ f d → Stays h₀ h ∧ wpAny M A (call (.ref f) [v0, v1]) Q E (St b h t))
    (he : starEach [.Name y0 p0, .Name y1 p1] (envOf name scope L a cd) = (false, eval (.Name y0 p0) (envOf name scope L a cd)) :: starEach [.Name y1 p1] (envOf name scope L a cd) := by rfl)
    (he2 : eval (.Call (.Name x pos') [.Name y0 p0, .Name y1 p1] [] pos) (envOf name scope L a cd) = (do callWith pos (← eval (.Name x pos') (envOf name scope L a cd)) [] (backTo pos (starEach [.Name y0 p0, .Name y1 p1] (envOf name scope L a cd))) (backToKw pos (keywordEach [] (envOf name scope L a cd)))) := by rfl)
    (hk : scope.kind = .function := by rfl) (hl : (envOf name scope L a cd).kindOf x = some .globalImplicit := by rfl) (hn : (x == ("__debug__" : Str)) = false := by decide)
    (hl0 : (envOf name scope L a cd).kindOf y0 = some .local := by rfl) (hd0 : (y0 == ("__debug__" : Str)) = false := by decide) (hl1 : (envOf name scope L a cd).kindOf y1 = some .local := by rfl) (hd1 : (y1 == ("__debug__" : Str)) = false := by decide) :
    wpAny M A (eval (.Call (.Name x pos') [.Name y0 p0, .Name y1 p1] [] pos) (envOf name scope L a cd)) Q E (St b h t) :=
  r_callN F hd hx (fun f hf => args_loc F hy0 (args_loc F hy1 (args_nil (q f hf)) hk hl1 hd1) hk hl0 hd0) he he2 hk hl hn
theorem r_callL4 {x y0 y1 y2 y3 : Str} {p0 p1 p2 p3 pos pos' : Pos} {v0 v1 v2 v3 : Value} {Q : Value → Shared → Prop} (F : Fm W h₀ L dl h m led) {d : Str × Arguments × List Stmt × Scope} (hd : defAt W.p (ixIn x W.p.main.body) = some d) (hx : d.1 = x) (hy0 : m.lookup y0 = some v0) (hy1 : m.lookup y1 = some v1) (hy2 : m.lookup y2 = some v2) (hy3 : m.lookup y3 = some v3)
    (q : ∀ f, FnRef h₀ f d → Stays h₀ h ∧ wpAny M A (call (.ref f) [v0, v1, v2, v3]) Q E (St b h t))
    (he : starEach [.Name y0 p0, .Name y1 p1, .Name y2 p2, .Name y3 p3] (envOf name scope L a cd) = (false, eval (.Name y0 p0) (envOf name scope L a cd)) :: starEach [.Name y1 p1, .Name y2 p2, .Name y3 p3] (envOf name scope L a cd) := by rfl)
    (he2 : eval (.Call (.Name x pos') [.Name y0 p0, .Name y1 p1, .Name y2 p2, .Name y3 p3] [] pos) (envOf name scope L a cd) = (do callWith pos (← eval (.Name x pos') (envOf name scope L a cd)) [] (backTo pos (starEach [.Name y0 p0, .Name y1 p1, .Name y2 p2, .Name y3 p3] (envOf name scope L a cd))) (backToKw pos (keywordEach [] (envOf name scope L a cd)))) := by rfl)
    (hk : scope.kind = .function := by rfl) (hl : (envOf name scope L a cd).kindOf x = some .globalImplicit := by rfl) (hn : (x == ("__debug__" : Str)) = false := by decide)
    (hl0 : (envOf name scope L a cd).kindOf y0 = some .local := by rfl) (hd0 : (y0 == ("__debug__" : Str)) = false := by decide) (hl1 : (envOf name scope L a cd).kindOf y1 = some .local := by rfl) (hd1 : (y1 == ("__debug__" : Str)) = false := by decide) (hl2 : (envOf name scope L a cd).kindOf y2 = some .local := by rfl) (hd2 : (y2 == ("__debug__" : Str)) = false := by decide) (hl3 : (envOf name scope L a cd).kindOf y3 = some .local := by rfl) (hd3 : (y3 == ("__debug__" : Str)) = false := by decide) :
    wpAny M A (eval (.Call (.Name x pos') [.Name y0 p0, .Name y1 p1, .Name y2 p2, .Name y3 p3] [] pos) (envOf name scope L a cd)) Q E (St b h t) :=
  r_callN F hd hx (fun f hf => args_loc F hy0 (args_loc F hy1 (args_loc F hy2 (args_loc F hy3 (args_nil (q f hf)) hk hl3 hd3) hk hl2 hd2) hk hl1 hd1) hk hl0 hd0) he he2 hk hl hn
/-- x[k] of a list of ints -/
theorem x_scr {x : Str} {l : Addr} {ns : List Int} {k : Int} {kk : Nat} {p1 p2 pos : Pos} {Q : Value → Shared → Prop} (F : Fm W h₀ L dl h m led) (hx : m.lookup x = some (.ref l)) (i : Is h l (.kI ns)) (h0 : 0 ≤ k) (h1 : k < ns.length) (h2 : k < 2 ^ 62)
    (q : ∀ (_ : Tok) t' u, Q (.int (ns.getD k.toNat 0) u) (St b h t'))
    (hs : ∀ u, subscripted (.Constant (.int k) kk p2) false (.ref l) (.int k u) = operate [.ref l, .int k u] (getItem (.ref l) (.int k u)) := by intro _; with_unfolding_all rfl) (hg : ∀ r, letTemporaryGo (.Name x p1) (.ref l) r = pure () := by intro _; with_unfolding_all rfl)
    (hk : scope.kind = .function := by rfl) (hl : (envOf name scope L a cd).kindOf x = some .local := by rfl) (hd : (x == ("__debug__" : Str)) = false := by decide) :
    wpAny (model prog w) A (eval (.Subscript (.Name x p1) (.Constant (.int k) kk p2) pos) (envOf name scope L a cd)) Q E (St b h t) :=
  Subscript_ (r_loc F hx (x_int fun u' t' => x_item i h0 h1 h2 (q u' t') (hs u') hg) hk hl hd)
theorem execs_ifN {e : Expr} {es : List Expr} {kw : List Keyword} {p pn pos : Pos} {body orelse rest : List Stmt} {Q : Flow → Shared → Prop}
    (q : wpAny M A (eval (.Call e es kw p) env) (fun v s₁ => wpAny M A (truthy v) (fun c s₂ => if (!c) = true then wpAny M A (execs body env) (fun f s' => match f with | .next => wpAny M A (execs rest env) Q E s' | f => Q f s') E s₂ else wpAny M A (execs orelse env) (fun f s' => match f with | .next => wpAny M A (execs rest env) Q E s' | f => Q f s') E s₂) E s₁) E s) :
    wpAny M A (execs (.If (.UnaryOp .Not (.Call e es kw p) pn) body orelse pos :: rest) env) Q E s := wpAny_execs_cons (wpAny_If (wpAny_isTrue_Not (wpAny_isTrue_value q rfl)))
end
/-- the law's frame at its start -/
theorem start_fm {W : Wd} {h₀ h : Heap} {L l : Addr} {x : Str} {vs : List Value} {xs : List Int} (G : W.G h₀) (F : Fr h₀ L h (fun y => List.lookup y [(x, .ref l)])) (hL : h₀.IsList l vs.toArray) (hI : IntsAre vs xs) : Fm W h₀ L none h [(x, .ref l)] [(l, .kI xs, false)] :=
  have i := Is.ofList hL (by simpa using hI)
  ⟨G, ⟨_, F.ns, fun _ _ e => e⟩, F.keep, F.above, (fun _ e => nomatch e), fun q hq => by
    obtain rfl := List.mem_singleton.mp hq
    refine ⟨i.keeps F.keep, fun e => ?_, (fun _ e => nomatch e), i⟩
    obtain ⟨o, ho, _⟩ := hL
    have h1 := Heap.lt_size ho
    have h2 := F.above
    have h3 : l = L := e
    exact absurd h1 (by rw [h3]; exact Nat.not_lt.mpr h2)⟩
/-- small bounds, by one rule each -/
theorem n_neg (n : Nat) : (-(2 ^ 64) : Int) < (n : Int) := Int.lt_of_lt_of_le (by decide) (Int.natCast_nonneg n)
theorem n_ltZ {n k : Nat} {c : Int} (h : n < k) (hc : (k : Int) ≤ c) : (n : Int) < c := Int.lt_of_lt_of_le (Int.ofNat_lt.mpr h) hc
theorem n_leZ {n k : Nat} {c : Int} (h : n ≤ k) (hc : (k : Int) < c) : (n : Int) < c := Int.lt_of_le_of_lt (Int.ofNat_le.mpr h) hc
theorem n_leY {n k : Nat} {c : Int} (h : n ≤ k) (hc : (k : Int) ≤ c) : (n : Int) ≤ c := Int.le_trans (Int.ofNat_le.mpr h) hc
theorem n_llZ {j n k : Nat} {c : Int} (h : j < n) (h' : n ≤ k) (hc : (k : Int) ≤ c) : (j : Int) < c := n_ltZ (Nat.lt_of_lt_of_le h h') hc
theorem n_gtZ {n k : Nat} {c : Int} (h : k ≤ n) (hc : c < (k : Int)) : c < (n : Int) := Int.lt_of_lt_of_le hc (Int.ofNat_le.mpr h)
theorem n_add0 (n k : Nat) : (0 : Int) ≤ (n : Int) + (k : Int) := Int.add_nonneg (Int.natCast_nonneg n) (Int.natCast_nonneg k)
theorem n_odd (n : Nat) : (0 : Int) < 2 * (n : Int) + 1 := Int.lt_add_one_of_le (Int.mul_nonneg (by decide) (Int.natCast_nonneg n))
theorem e_lt {i k c : Int} (hk : 0 < k) (hc : k ≤ c) : i % k < c := Int.lt_of_lt_of_le (Int.emod_lt_of_pos i hk) hc
theorem z_neg {i : Int} (h : 0 ≤ i ∧ i < 10000) : (-(2 ^ 64) : Int) < i := Int.lt_of_lt_of_le (by decide) h.1
theorem z_lt {i c : Int} (h : 0 ≤ i ∧ i < 10000) (hc : 10000 ≤ c) : i < c := Int.lt_of_lt_of_le h.2 hc
theorem e_le {i k c : Int} (hk : 0 < k) (hc : k ≤ c + 1) : i % k ≤ c := Int.le_of_lt_add_one (e_lt hk hc)
theorem e_tn {i k : Int} {c : Nat} (hk : 0 < k) (hc : k ≤ (c : Int) + 1) : (i % k).toNat ≤ c := Int.toNat_le.mpr (e_le hk hc)
theorem e1_nn {i k c : Int} (hk : 0 < k) (hc : c ≤ 0) : c ≤ 1 + i % k := Int.le_trans hc (Int.add_nonneg (by decide) (Int.emod_nonneg i (Int.ne_of_gt hk)))
theorem e1_pos {i k : Int} (hk : 0 < k) : 0 < 1 + i % k := Int.add_pos_of_pos_of_nonneg (by decide) (Int.emod_nonneg i (Int.ne_of_gt hk))
theorem e1_lt {i k c : Int} (hk : 0 < k) (hc : 1 + k ≤ c) : 1 + i % k < c := Int.lt_of_lt_of_le (Int.add_lt_add_left (Int.emod_lt_of_pos i hk) 1) hc
theorem le8 {n : Nat} (h : n ≤ 8) : n = 0 ∨ n = 1 ∨ n = 2 ∨ n = 3 ∨ n = 4 ∨ n = 5 ∨ n = 6 ∨ n = 7 ∨ n = 8 := by omega
theorem le58 {n : Nat} (h : 5 ≤ n) (h' : n ≤ 8) : n = 5 ∨ n = 6 ∨ n = 7 ∨ n = 8 := by omega
theorem le4 {n : Nat} (h : n ≤ 4) : n = 0 ∨ n = 1 ∨ n = 2 ∨ n = 3 ∨ n = 4 := by omega
end Mine
namespace Mine
open PySem PySem.Calls PyProof.Rows

theorem execs_app (l₁ l₂ : List Stmt) (env : Env) : execs (l₁ ++ l₂) env = (execs l₁ env >>= fun f => match f with | .next => execs l₂ env | f => pure f) := by
  induction l₁ with
  | nil => rw [List.nil_append, execs_nil, pure_bind]
  | cons st r ih =>
    rw [List.cons_append, execs_cons, execs_cons, bind_assoc]
    congr 1; funext f
    cases f <;> simp [ih]
/-- the rows behind the n-th -/
def restOf (n : Nat) (l : List Stmt) : List Stmt := l.drop n
/-- the rows up to the n-th, then the rest -/
theorem execs_split {M : Model} {A : Around} {E : Value → Shared → Prop} {s : Shared} {env : Env} {l : List Stmt} {Q : Flow → Shared → Prop} (n : Nat)
    (h : wpAny M A (execs (l.take n) env) (fun f s' => match f with | .next => wpAny M A (execs (restOf n l) env) Q E s' | f => Q f s') E s) : wpAny M A (execs l env) Q E s := by
  have e := execs_app (l.take n) (l.drop n) env
  rw [List.take_append_drop] at e
  rw [e]
  refine wpAny_bind (wpAny_mono h (fun f s' q => ?_) fun _ _ q => q)
  cases f <;> first | exact q | exact wpAny_pure q

theorem bits_of {i : Int} (h0 : 0 ≤ i) (h1 : i < 1000000000000000000000000000000) : Builtin.Int.intBits i ≤ 128 := intBits_le (by
  have : (2 : Nat) ^ 128 = 340282366920938463463374607431768211456 := by decide
  omega)
theorem mul_fits2 {i j : Int} (h0 : 0 ≤ i) (h1 : i < 1000000000000000000000000000000) (h2 : 0 ≤ j) (h3 : j < 1000000000000000000000000000000) : IntMulOk i j :=
  IntMulOk.of_bits (Nat.le_trans (bits_of h0 h1) (by decide)) (Nat.le_trans (bits_of h2 h3) (by decide))
theorem pow_fits2 {i j : Int} (h0 : 0 ≤ i) (h1 : i < 1000000000000000000000000000000) (h2 : 0 ≤ j) (h3 : j ≤ 1000) : (Builtin.Int.intBits i : Int) * j ≤ 2 ^ 27 := by
  have hb := bits_of h0 h1
  have h4 : (Builtin.Int.intBits i : Int) * j ≤ 128 * 1000 := Int.le_trans (Int.mul_le_mul_of_nonneg_right (by omega) h2) (Int.mul_le_mul_of_nonneg_left h3 (by decide))
  omega

/-- a text by its signs -/
abbrev Sx (cs : List Nat) : Str := ⟨cs.toArray⟩
theorem sx_of {x : Str} {cs : List Nat} (h : x.cps.toList = cs) : x = Sx cs := by
  cases x with | mk a => subst h; simp
theorem sx_list (cs : List Nat) : (Sx cs).cps.toList = cs := by simp
theorem sx_len (cs : List Nat) : (Sx cs).length = cs.length := by show cs.toArray.size = _; simp
theorem sx_num (n : Nat) : Str.ofString (toString ((n : Nat) : Int)) = Sx (ts n) := sx_of (PySem.W.KIN.signs_num n)
theorem log2_of {n : Nat} (h : n < 1000000000000000000000000000000000000000000000000000000000000) : ((n : Nat) : Int).natAbs.log2 < 1920 := by
  rw [Int.natAbs_natCast]
  by_cases z : n = 0
  · subst z; decide
  · refine (Nat.log2_lt z).mpr (Nat.lt_trans h (by decide +kernel))
section
variable {W : Wd} {prog : Program} {w : World} {M : Model} {A : Around} {E : Value → Shared → Prop} {b : Shared} {h₀ h : Heap} {L a : Addr} {dl : Option (Addr × Kd)} {t : Nat}
  {m : List (Str × Value)} {led : List Ent} {name : Str} {scope : Scope} {cd : Value} {Q : Value → Shared → Prop} {cs ds : List Nat} {u u' : Tok} {x y : Str}
theorem x_isnotB {c d : Bool} (hc : c = d) (q : Q (.bool false) (St b h t)) : wpAny M A (compareOp .IsNot (.bool c) (.bool d)) Q E (St b h t) := by
  subst hc
  exact wpAny_isNot_plain rfl (by rw [beq_self_eq_true]; exact q)
/-- x[:] of a list -/
theorem x_allN {x : Str} {p1 p pos : Pos} {l : Addr} {ns : List Int} (F : Fm W h₀ L dl h m led) (hx : m.lookup x = some (.ref l)) (i : Is h l (.kI ns)) (hsz : ns.length ≤ 10000)
    (q : ∀ r h', Fm W h₀ L dl h' m ((r, .kP ns, true) :: led) → Q (.ref r) (St b h' t))
    (hk : scope.kind = .function := by rfl) (hl : (envOf name scope L a cd).kindOf x = some .local := by rfl) (hd : (x == ("__debug__" : Str)) = false := by decide) :
    wpAny (model prog w) A (eval (.Subscript (.Name x p1) (.Slice none none none p) pos) (envOf name scope L a cd)) Q E (St b h t) := by
  refine x_slice (r_loc F hx ?_ hk hl hd)
  refine wpAny_evalPart_none (wpAny_evalPart_none ?_)
  refine ⟨l, ns, none, none, h, t, rfl, rfl, i, hsz, .none, .none, fun vs hvs r h' st nn hr => q r h' (F.add st nn ?_)⟩
  obtain ⟨k, hr⟩ := hr
  refine ⟨_, hr, _, k, rfl, rfl, rfl, ?_⟩
  rw [slicePick_all]
  simpa using hvs
/-- str(n) -/
theorem x_strI {n : Nat} {i : Int} (hi : i = (n : Int)) (hn : n < 1000000000000000000000000000000000000000000000000000000000000) (q : ∀ u t', Q (.str (Sx (ts n)) u) (St b h t')) : wpAny (model prog w) A (call (.type "str") [.int i u]) Q E (St b h t) := by
  subst hi
  refine P.str_of_int (s := St b h t) (log2_of hn) ?_
  rw [sx_num]; exact q _ _
def marks : List Nat := [45, 95, 32, 120, 43, 46, 47, 58]
theorem x_neS (hx : x = y) (q : Q (.bool false) (St b h t)) : wpAny (model prog w) A (compareOp .NotEq (.str x u) (.str y u')) Q E (St b h t) := by
  subst hx
  refine P.ne_str (s := St b h t) ?_
  rw [bne_self_eq_false]; exact q
theorem zfill_p4 {r : Nat} (hr : r < 10000) : Txt.zfill (Sx (ts r)) 4 = Sx (p4 r) := by
  have hl := ts_len (n := r) (k := 4) (by decide) hr
  have hp := ts_pad hr
  unfold Txt.zfill
  rw [sx_len]
  by_cases c : (4 : Int) ≤ ((ts r).length : Nat)
  · rw [if_pos c]
    rw [show 4 - (ts r).length = 0 by omega, List.replicate_zero, List.nil_append] at hp
    rw [hp]
  · rw [if_neg c]
    obtain ⟨d, rest, hd⟩ := List.exists_cons_of_ne_nil (ts_ne r)
    have hdd := ts_dig r d (by rw [hd]; exact .head _)
    have e : zfilled (Sx (ts r)) ((4 : Int).toNat - (ts r).length) = Builtin.Str.padded (Sx (ts r)) ((4 : Int).toNat - (ts r).length) 0 48 := by
      unfold zfilled
      have h0 : (Sx (ts r)).cps[0]? = some d := by rw [hd]; simp
      rw [h0]
      split
      · rename_i q; cases q; omega
      · rename_i q; cases q; omega
      · rfl
    rw [e]
    refine sx_of ?_
    unfold Builtin.Str.padded
    rw [← hp]
    simp
/-- E.zfill(4) -/
theorem x_zfill {o : Expr} {kk : Nat} {cp apos pos : Pos} (q : wpAny (model prog w) A (eval o (envOf name scope L a cd)) (fun v s₁ => ∃ r u h₁ t₁, v = .str (Sx (ts r)) u ∧ s₁ = St b h₁ t₁ ∧ r < 10000 ∧ ∀ u t', Q (.str (Sx (p4 r)) u) (St b h₁ t')) E (St b h t))
    (hbase : attributeBase o "zfill" (envOf name scope L a cd) (eval o (envOf name scope L a cd)) = eval o (envOf name scope L a cd) := by rfl)
    (hs : starEach [.Constant (.int 4) kk cp] (envOf name scope L a cd) = [(false, eval (.Constant (.int 4) kk cp) (envOf name scope L a cd))] := by rfl) (hline : (apos.endLine == pos.line) = true := by rfl) :
    wpAny (model prog w) A (eval (.Call (.Attribute o "zfill" apos) [.Constant (.int 4) kk cp] [] pos) (envOf name scope L a cd)) Q E (St b h t) := by
  refine Call_method1 hbase hs hline (wpAny_mono q (fun v s₁ q => ?_) fun _ _ e => e)
  obtain ⟨r, u, h₁, t₁, rfl, rfl, hr, q⟩ := q
  refine SB.zfill (x_int fun u' t' => ⟨4, u', rfl, by decide, fun t'' k => ?_⟩)
  rw [zfill_p4 hr]; exact q t'' k
theorem Is.plainS {h : Heap} {a : Addr} {l : List (Str × Tok)} (x : Is h a (.kS l)) : PlainL h a (strValues l).toArray :=
  let ⟨o, ho, n, c, dn, d⟩ := x; ⟨o, n, ho, c, dn, d⟩
theorem Is.ofPlainS {h : Heap} {a : Addr} {l : List (Str × Tok)} (x : PlainL h a (strValues l).toArray) : Is h a (.kS l) :=
  let ⟨o, n, ho, c, dn, d⟩ := x; ⟨o, ho, n, c, dn, d⟩
/-- a new list of one text -/
theorem x_newListS {x : Str} {u : Tok} (F : Fm W h₀ L none h m led) (q : ∀ r h', Fm W h₀ L (some (r, .kS [(x, u)])) h' m led → Q (.ref r) (St b h' t)) : wpAny M A (newList [.str x u]) Q E (St b h t) :=
  wpAny_newObj_type (s := St b h t) (q _ _ (F.toD (push_stays h _) (new_none h) ⟨_, Heap.get?_push_size _ rfl, 0, rfl, rfl, rfl⟩)) (by show 1 ≤ sizeLine; decide)
theorem x_appendS {D : Addr} {l : List (Str × Tok)} {v : Str} {u : Tok} (F : Fm W h₀ L (some (D, .kS l)) h m led) (h1 : l.length ≤ 10000)
    (q : ∀ h', Fm W h₀ L (some (D, .kS (l ++ [(v, u)]))) h' m led → Q .none (St b h' t)) : wpAny (model prog w) A (call (.builtin "list.append") [.ref D, .str v u]) Q E (St b h t) := by
  refine list_append_plainL (s := St b h t) F.hasD.plainS (fun h' hl' hs => q h' (F.change hs (Is.ofPlainS ?_))) (by rw [List.size_toArray]; unfold strValues; rw [List.length_map]; unfold sizeLine; omega)
  have e : (strValues l).toArray.push (.str v u) = (strValues (l ++ [(v, u)])).toArray := by simp [strValues]
  rw [← e]; exact hl'
theorem x_appendCallS {D : Addr} {l : List (Str × Tok)} {x : Str} {elt : Expr} {p1 apos pos : Pos} (F : Fm W h₀ L (some (D, .kS l)) h m led) (hx : m.lookup x = some (.ref D))
    (q : wpAny (model prog w) A (eval elt (envOf name scope L a cd)) (fun y s₂ => wpAny (model prog w) A (call (.builtin "list.append") [.ref D, y]) Q E s₂) E (St b h t))
    (hbase : attributeBase (.Name x p1) "append" (envOf name scope L a cd) (eval (.Name x p1) (envOf name scope L a cd)) = eval (.Name x p1) (envOf name scope L a cd) := by rfl)
    (hfew : ((backTo pos (starEach [elt] (envOf name scope L a cd))).all (fun x => !x.1) && (backToKw pos (keywordEach [] (envOf name scope L a cd))).all (fun x => x.1.isSome)
      && decide (([elt] : List Expr).length + ([] : List Keyword).length + (if ([] : List Keyword).isEmpty then 0 else 1) < 30)) = true := by rfl)
    (hline : (apos.endLine == pos.line) = true := by rfl)
    (htrees : backTo pos (starEach [elt] (envOf name scope L a cd)) = [(false, eval elt (envOf name scope L a cd))] := by rfl)
    (hk : scope.kind = .function := by rfl) (hl : (envOf name scope L a cd).kindOf x = some .local := by rfl) (hd : (x == ("__debug__" : Str)) = false := by decide) :
    wpAny (model prog w) A (eval (.Call (.Attribute (.Name x p1) "append" apos) [elt] [] pos) (envOf name scope L a cd)) Q E (St b h t) :=
  wpAny_Call_append hbase hfew hline htrees (r_loc F hx ⟨D, (strValues l).toArray, rfl, F.hasD.plainS, q⟩ hk hl hd)
theorem join_flat : ∀ (l : List Str), Str.join (Str.ofString "") l = Sx (l.flatMap fun y => y.cps.toList)
  | [] => rfl
  | [y] => sx_of (by show y.cps.toList = _; simp)
  | y :: z :: r => by
    have ih := join_flat (z :: r)
    refine sx_of ?_
    show (y ++ Str.ofString "" ++ Str.join (Str.ofString "") (z :: r)).cps.toList = _
    rw [PySem.W.KT.app_list, PySem.W.KT.app_list, ih, sx_list, List.flatMap_cons (x := y)]
    have : (Str.ofString "").cps.toList = [] := by decide
    rw [this, List.append_nil]
theorem lens_flat : ∀ (l : List Str), (l.map (·.length)).sum = (l.flatMap fun y => y.cps.toList).length
  | [] => rfl
  | y :: r => by
    rw [List.map_cons, List.sum_cons, lens_flat r, List.flatMap_cons, List.length_append]
    rw [show y.cps.toList.length = y.length from Array.length_toList]
set_option maxRecDepth 100000 in
/-- ''.join(x) -/
theorem x_join {D : Addr} {l : List (Str × Tok)} {x : Str} {kk : Nat} {cp np apos pos : Pos} (F : Fm W h₀ L (some (D, .kS l)) h m led) (hx : m.lookup x = some (.ref D)) (hf : ((l.map (·.1)).flatMap fun y => y.cps.toList) = cs) (hl : cs.length ≤ 1000)
    (q : ∀ u t', Q (.str (Sx cs) u) (St b h t'))
    (hbase : attributeBase (.Constant (.str (Str.ofString "")) kk cp) "join" (envOf name scope L a cd) (eval (.Constant (.str (Str.ofString "")) kk cp) (envOf name scope L a cd)) = eval (.Constant (.str (Str.ofString "")) kk cp) (envOf name scope L a cd) := by rfl)
    (hs : starEach [.Name x np] (envOf name scope L a cd) = [(false, eval (.Name x np) (envOf name scope L a cd))] := by rfl) (hline : (apos.endLine == pos.line) = true := by rfl)
    (hk : scope.kind = .function := by rfl) (hlx : (envOf name scope L a cd).kindOf x = some .local := by rfl) (hd : (x == ("__debug__" : Str)) = false := by decide) :
    wpAny (model prog w) A (eval (.Call (.Attribute (.Constant (.str (Str.ofString "")) kk cp) "join" apos) [.Name x np] [] pos) (envOf name scope L a cd)) Q E (St b h t) := by
  refine Call_method1 hbase hs hline (x_str fun u t' => SB.join (r_loc F hx ⟨D, l, rfl, ?_, _, rfl, ?_, fun t'' k => ?_⟩ hk hlx hd))
  · obtain ⟨o, n, ho, hc, _, hdt⟩ := F.hasD.plainS
    exact ⟨o, ho, hc, n, hdt⟩
  · refine joinOk_of ?_
    rw [lens_flat, hf, show (Str.ofString "").length = 0 by decide]
    omega
  · show Q (.str (Builtin.Str.glued _ _) _) _
    rw [StrLaws.glued_eq_join, join_flat, hf]
    exact q t'' k
end
end Mine
namespace Mine
open PySem PySem.Calls PyProof.Rows
set_option Elab.async false
set_option maxRecDepth 100000
set_option maxHeartbeats 4000000
set_option linter.unusedVariables false
abbrev pw : Program := PySem.Challenge.pw_sx_ylimbs_3
abbrev Wx (mg mb : Str → Option Value) : Wd := ⟨pw, ["len", "range", "max", "type", "list", "int", "str", "ValueError", "ZeroDivisionError"], [("_law_edges", [1, 9999, 0, 2, 5000, 9999]), ("_law_bad", [10000, -1])], ([] : List (Str × List Str)), mg, mb⟩
set_option compiler.extract_closed false in
local macro_rules | `(tactic| walk_at "m_n") => `(tactic| first | with_reducible assumption | decide | with_reducible exact Int.natCast_nonneg _ | with_reducible exact n_neg _ | with_reducible exact Int.emod_nonneg _ (by decide) | with_reducible exact e_lt (by decide) (by decide) | with_reducible exact rfl | with_reducible exact n_add0 _ _ | with_reducible exact e_le (by decide) (by decide) | with_reducible exact e_tn (by decide) (by decide) | with_reducible exact e1_nn (by decide) (by decide) | with_reducible exact e1_pos (by decide) | with_reducible exact e1_lt (by decide) (by decide) | with_reducible exact n_odd _ | with_reducible exact Nat.le_trans (by with_reducible assumption) (by decide) | with_reducible exact Nat.lt_of_lt_of_le (by with_reducible assumption) (by decide) | with_reducible exact Nat.lt_of_le_of_lt (by with_reducible assumption) (by decide) | with_reducible exact n_ltZ (by with_reducible assumption) (by decide) | with_reducible exact n_leZ (by with_reducible assumption) (by decide) | with_reducible exact n_leY (by with_reducible assumption) (by decide) | with_reducible exact n_gtZ (by with_reducible assumption) (by decide) | with_reducible exact z_lt (by with_reducible assumption) (by decide) | with_reducible exact Int.ofNat_lt.mpr (by with_reducible assumption) | with_reducible exact z_neg (by with_reducible assumption) | with_reducible exact n_llZ (by with_reducible assumption) (by with_reducible assumption) (by decide) | with_reducible exact And.left (by with_reducible assumption) | with_reducible exact And.right (by with_reducible assumption) | omega)
set_option compiler.extract_closed false in
local macro_rules | `(tactic| walk_at "m_mem") => `(tactic| first | with_reducible exact List.mem_cons_self | (with_reducible refine List.mem_cons_of_mem _ ?_; walk_at "m_mem"))
set_option compiler.extract_closed false in
local macro_rules | `(tactic| walk_at "m_has") => `(tactic| first | exact Fm.has (by with_reducible assumption) (by walk_at "m_mem") | exact Is.pl_ints (Fm.has (by with_reducible assumption) (by walk_at "m_mem")) | exact Fm.hasD (by with_reducible assumption) | exact Is.pl_ints (Fm.hasD (by with_reducible assumption)))
set_option compiler.extract_closed false in
local macro_rules | `(tactic| walk_at "m_sub") => `(tactic| first | exact sub_nil | exact fun _ h => h | (refine sub_cons (by walk_at "m_mem") ?_; walk_at "m_sub"))
set_option compiler.extract_closed false in
local macro_rules | `(tactic| walk_at "m_Sub") => `(tactic| first | exact True.intro | (refine And.intro (by rfl) ?_; walk_at "m_Sub"))
set_option compiler.extract_closed false in
local macro_rules | `(tactic| walk_at "m_up") => `(tactic| first | exact fun _ h => h | exact fun _ h => List.mem_append_left _ h | exact fun _ h => List.mem_append_right _ h | (refine up_cons ?_; walk_at "m_up"))
section
variable {mg mb : Str → Option Value} {prog : Program} {w : World} {A : Around} {E : Value → Shared → Prop} {b : Shared} {h₀ h : Heap} {L a a' f : Addr} {dl : Option (Addr × Kd)} {t : Nat}
  {m : List (Str × Value)} {led : List Ent} {Q : Value → Shared → Prop} {nm : Str} {ps : Arguments} {bd : List Stmt} {sc : Scope}
theorem trimmed_c {xs : List Int} (F : Fm (Wx mg mb) h₀ L dl h m led) (hd : defAt pw 3 = some (nm, ps, bd, sc)) (hf : FnRef h₀ f (nm, ps, bd, sc)) (x : Is h a (.kI xs)) (hn : xs.length ≤ 5000) (ok : Ok xs) (hA : Rm 1 A)
    (k : ∀ r h' t', Fm (Wx mg mb) h₀ L dl h' m ((r, .kP (dg (vl xs).toNat), true) :: led) → Q (.ref r) (St b h' t')) :
    wpAny (model prog w) A (call (.ref f) [.ref a]) Q E (St b h t) := by
  cases hd
  refine r_enter F hf hA [("a", .ref a)] [(a, .kI xs, false)] ⟨⟨x, rfl⟩, trivial⟩ ?_
  intro L' h₁ t₁ code F₁
  refine execs_asg ?_
  (refine r_len (by with_reducible assumption) (by rfl) (by walk_at "m_has") (by walk_at "m_n") ?_ (by walk_at "m_mem"); intro _ _)
  (refine r_store (by with_reducible assumption) ?_; intro _ _ _)
  with_reducible refine wpAny_execs_cons ?_
  refine r_while (σ := Int × Tok) (fun _ => none) (fun c => [("n", .int c.1 c.2), ("a", .ref a)]) (fun _ => [(a, .kI xs, false)]) (fun c => 0 ≤ c.1 ∧ c.1 ≤ xs.length ∧ vl (xs.take c.1.toNat) = vl xs) (fun c => c.1.toNat) (xs.length, _) (Fm.wk (by assumption) (by walk_at "m_Sub") (by walk_at "m_sub")) ⟨by simp, by simp, by simp⟩ ?_
  rintro ⟨n, u⟩ h₂ t₂ E' ⟨hn0, hn1, hn2⟩ F₂
  dsimp only at hn0 hn1 hn2 F₂ ⊢
  with_reducible refine wpAny_isTrue_BoolOp ?_
  with_reducible refine wpAny_allTrue_And_cons ?_
  refine wpAny_isTrue_Compare1 ?_
  refine r_loc (by with_reducible assumption) (by rfl) ?_
  ((with_reducible refine x_int ?_); intro _ _)
  with_reducible refine P.gt_int ?_
  with_reducible refine wpAny_truthy_bool ?_
  refine ite_dec (fun q1 => ?_) (fun q1 => ?_)
  · with_reducible refine wpAny_allTrue_And_cons ?_
    refine wpAny_isTrue_Compare1 ?_
    refine Subscript_ ?_
    refine r_loc (by with_reducible assumption) (by rfl) ?_
    with_reducible refine wpAny_BinOp ?_
    refine r_loc (by with_reducible assumption) (by rfl) ?_
    ((with_reducible refine x_int ?_); intro _ _)
    ((with_reducible refine x_sub ?_); intro _ _)
    (refine x_item (by walk_at "m_has") (by walk_at "m_n") (by walk_at "m_n") (by walk_at "m_n") ?_; intro _)
    ((with_reducible refine x_int ?_); intro _ _)
    with_reducible refine P.eq_int ?_
    with_reducible refine wpAny_truthy_bool ?_
    refine ite_beq (fun q2 => ?_) (fun q2 => ?_)
    · with_reducible refine wpAny_allTrue_And_nil ?_
      with_reducible refine ite_t ?_
      with_reducible refine wpAny_execs_cons ?_
      with_reducible refine wpAny_AugAssign_Name ?_
      refine r_locn (by with_reducible assumption) (by rfl) ?_
      ((with_reducible refine x_int ?_); intro _ _)
      ((with_reducible refine x_isub ?_); intro _ _)
      (refine r_store (by with_reducible assumption) ?_; intro _ _ _)
      with_reducible refine wpAny_execs_nil ?_
      refine turn_next (n - 1, _) (by assumption) rfl (by walk_at "m_Sub") (by walk_at "m_sub") ⟨⟨by dsimp only; omega, by dsimp only; omega, ?_⟩, by dsimp only; omega⟩
      skip
      rw [Int.pred_toNat n] at q2 ⊢
      rw [trim_step (by walk_at "m_n") (by walk_at "m_n") q2]; exact hn2
    · with_reducible refine ite_f ?_
      with_reducible refine wpAny_execs_cons ?_
      with_reducible refine wpAny_Return_some ?_
      (refine x_uptoN (by with_reducible assumption) (by rfl) (by rfl) (by walk_at "m_has") (by walk_at "m_n") (by walk_at "m_n") ?_; intro _ _ _)
      skip
      rename_i r h' F'
      rw [trim_done ok (by walk_at "m_n") hn2 (.inr (by rw [Int.pred_toNat n] at q2; exact q2))] at F'
      exact k r h' _ (F.back F' (by walk_at "m_mem"))
  · with_reducible refine ite_f ?_
    with_reducible refine wpAny_execs_cons ?_
    with_reducible refine wpAny_Return_some ?_
    (refine x_uptoN (by with_reducible assumption) (by rfl) (by rfl) (by walk_at "m_has") (by walk_at "m_n") (by walk_at "m_n") ?_; intro _ _ _)
    skip
    rename_i r h' F'
    rw [trim_done ok (by walk_at "m_n") hn2 (.inl (by walk_at "m_n"))] at F'
    exact k r h' _ (F.back F' (by walk_at "m_mem"))

theorem from_int_c {i : Int} {u : Tok} (F : Fm (Wx mg mb) h₀ L dl h m led) (hd : defAt pw 4 = some (nm, ps, bd, sc)) (hf : FnRef h₀ f (nm, ps, bd, sc)) (h0 : 0 ≤ i) (hn : (dg i.toNat).length ≤ 5000) (hA : Rm 1 A)
    (k : ∀ r h' t', Fm (Wx mg mb) h₀ L dl h' m ((r, .kP (dg i.toNat), true) :: led) → Q (.ref r) (St b h' t')) :
    wpAny (model prog w) A (call (.ref f) [.int i u]) Q E (St b h t) := by
  cases hd
  refine r_enter F hf hA [("n", .int i u)] [] trivial ?_
  intro L' h₁ t₁ code F₁
  refine execs_asg ?_
  with_reducible refine List_ ?_
  with_reducible refine args_nil ?_
  skip
  refine x_newListD (by assumption) .nil (by decide) ?_
  intro D h₂ F₂
  (refine r_store (by with_reducible assumption) ?_; intro _ _ _)
  with_reducible refine wpAny_execs_cons ?_
  refine r_while (σ := List Int × Int × Tok) (fun c => some (D, .kP c.1)) (fun c => [("limbs", .ref D), ("n", .int c.2.1 c.2.2)]) (fun _ => []) (fun c => 0 ≤ c.2.1 ∧ c.1 ++ dg c.2.1.toNat = dg i.toNat) (fun c => c.2.1.toNat) ([], i, u) (Fm.wk (by assumption) (by walk_at "m_Sub") (by walk_at "m_sub")) ⟨h0, rfl⟩ ?_
  rintro ⟨acc, n, u'⟩ h₂ t₂ E' ⟨hn0, hn1⟩ F₂
  dsimp only at hn0 hn1 F₂ ⊢
  have hlen : acc.length ≤ 5000 := by have := congrArg List.length hn1; rw [List.length_append] at this; walk_at "m_n"
  refine wpAny_isTrue_Compare1 ?_
  refine r_loc (by with_reducible assumption) (by rfl) ?_
  ((with_reducible refine x_int ?_); intro _ _)
  with_reducible refine P.gt_int ?_
  with_reducible refine wpAny_truthy_bool ?_
  refine ite_dec (fun q1 => ?_) (fun q1 => ?_)
  · with_reducible refine wpAny_execs_cons ?_
    refine wpAny_Expr_any ?_
    refine x_appendCall (by with_reducible assumption) (by rfl) ?_
    with_reducible refine wpAny_BinOp ?_
    refine r_loc (by with_reducible assumption) (by rfl) ?_
    (refine r_base (by with_reducible assumption) ?_; intro _)
    ((with_reducible refine x_mod (by walk_at "m_n") ?_); intro _ _)
    (refine x_append (by with_reducible assumption) (by walk_at "m_n") ?_; intro _ _)
    refine execs_asg ?_
    with_reducible refine wpAny_BinOp ?_
    refine r_loc (by with_reducible assumption) (by rfl) ?_
    (refine r_base (by with_reducible assumption) ?_; intro _)
    ((with_reducible refine x_div (by walk_at "m_n") (by walk_at "m_n") ?_); intro _ _)
    (refine r_store (by with_reducible assumption) ?_; intro _ _ _)
    with_reducible refine wpAny_execs_nil ?_
    refine turn_next (acc ++ [n % 10000], n / 10000, _) (by assumption) rfl (by walk_at "m_Sub") (by walk_at "m_sub") ⟨⟨by dsimp only; omega, ?_⟩, by dsimp only; omega⟩
    skip
    rw [← hn1, fi_step q1]; simp
  · with_reducible refine wpAny_execs_cons ?_
    with_reducible refine wpAny_Return_some ?_
    refine r_loc (by with_reducible assumption) (by rfl) ?_
    skip
    have e : acc = dg i.toNat := by rw [← hn1, show n.toNat = 0 by omega, dg_zero, List.append_nil]
    subst e
    exact k D _ _ (F.back F₂.unD (by walk_at "m_mem"))
end
section
variable {mg mb : Str → Option Value} {prog : Program} {w : World} {A : Around} {E : Value → Shared → Prop} {b : Shared} {h₀ h : Heap} {L a a' f : Addr} {dl : Option (Addr × Kd)} {t : Nat}
  {m : List (Str × Value)} {led : List Ent} {Q : Value → Shared → Prop} {nm : Str} {ps : Arguments} {bd : List Stmt} {sc : Scope}

theorem to_int_c {xs : List Int} (F : Fm (Wx mg mb) h₀ L dl h m led) (hd : defAt pw 5 = some (nm, ps, bd, sc)) (hf : FnRef h₀ f (nm, ps, bd, sc)) (x : Is h a (.kI xs)) (hn : xs.length ≤ 5000) (hA : Rm 1 A)
    (k : ∀ u h' t', Fm (Wx mg mb) h₀ L dl h' m led → Q (.int (vl xs) u) (St b h' t')) :
    wpAny (model prog w) A (call (.ref f) [.ref a]) Q E (St b h t) := by
  cases hd
  refine r_enter F hf hA [("a", .ref a)] [(a, .kI xs, false)] ⟨⟨x, rfl⟩, trivial⟩ ?_
  intro L' h₁ t₁ code F₁
  refine execs_asg ?_
  ((with_reducible refine x_int ?_); intro _ _)
  (refine r_store (by with_reducible assumption) ?_; intro _ _ _)
  with_reducible refine wpAny_execs_cons ?_
  refine wpAny_For ?_
  refine r_tcall bb_range (by with_reducible assumption) (by walk_at "m_mem") ?_
  refine args_cons ?_
  with_reducible refine wpAny_BinOp ?_
  (refine r_len (by with_reducible assumption) (by rfl) (by walk_at "m_has") (by walk_at "m_n") ?_ (by walk_at "m_mem"); intro _ _)
  ((with_reducible refine x_int ?_); intro _ _)
  ((with_reducible refine x_sub ?_); intro _ _)
  refine args_cons ?_
  with_reducible refine wpAny_UnaryOp ?_
  ((with_reducible refine x_int ?_); intro _ _)
  ((with_reducible refine x_neg ?_); intro _ _)
  refine args_cons ?_
  with_reducible refine wpAny_UnaryOp ?_
  ((with_reducible refine x_int ?_); intro _ _)
  ((with_reducible refine x_neg ?_); intro _ _)
  with_reducible refine args_nil ?_
  (refine x_range3 (by with_reducible assumption) ?_; intro _ _ _ _)
  refine r_down xs.length (by walk_at "m_n") (by assumption) (by walk_at "m_mem") (by walk_at "m_n") hA.hd (σ := Int × Tok) (fun _ => none) (fun c => [("n", .int c.1 c.2), ("a", .ref a)]) (fun _ => []) [(a, .kI xs, false)] (fun p c => c.1 = vl (xs.drop p)) (0, _) rfl (by walk_at "m_Sub") (by walk_at "m_sub") (fun _ _ q => nomatch q) (by dsimp only; rw [List.drop_of_length_le (Nat.le_refl _)]; rfl) ?_ ?_
  · rintro j ⟨n, u⟩ u' h₂ t₂ o I E' hj hJ F₂
    dsimp only [List.nil_append, List.cons_append] at hJ F₂ ⊢
    refine execs_asg ?_
    with_reducible refine wpAny_BinOp ?_
    with_reducible refine wpAny_BinOp ?_
    refine r_loc (by with_reducible assumption) (by rfl) ?_
    (refine r_base (by with_reducible assumption) ?_; intro _)
    ((with_reducible refine x_mul (by first | exact IntMulOk.of_right (intBits_le_64 (by walk_at "m_n") (by walk_at "m_n")) | exact IntMulOk.of_left (intBits_le_64 (by walk_at "m_n") (by walk_at "m_n")) | exact mul_fits2 (by walk_at "m_n") (by walk_at "m_n") (by walk_at "m_n") (by walk_at "m_n")) ?_); intro _ _)
    refine Subscript_ ?_
    refine r_loc (by with_reducible assumption) (by rfl) ?_
    refine r_loc (by with_reducible assumption) (by rfl) ?_
    (refine x_item (by walk_at "m_has") (by walk_at "m_n") (by walk_at "m_n") (by walk_at "m_n") ?_; intro _)
    ((with_reducible refine x_add ?_); intro _ _)
    (refine r_store (by with_reducible assumption) ?_; intro _ _ _)
    with_reducible refine wpAny_execs_nil ?_
    refine turn_next (n * 10000 + xs.getD j 0, _) (by assumption) rfl (by walk_at "m_Sub") (by walk_at "m_sub") ?_
    skip
    rw [vl_drop hj, hJ]; walk_at "m_n"
  · rintro ⟨n, u⟩ h₂ t₂ hJ F₂
    dsimp only [List.nil_append, List.cons_append] at hJ F₂ ⊢
    with_reducible refine wpAny_execs_cons ?_
    with_reducible refine wpAny_Return_some ?_
    refine r_loc (by with_reducible assumption) (by rfl) ?_
    skip
    subst hJ
    exact k _ _ _ (F.back0 F₂)

theorem compare_c {x y : Nat} (F : Fm (Wx mg mb) h₀ L dl h m led) (hd : defAt pw 6 = some (nm, ps, bd, sc)) (hf : FnRef h₀ f (nm, ps, bd, sc)) (hx : Is h a (.kI (dg x))) (hy : Is h a' (.kI (dg y)))
    (hnx : (dg x).length ≤ 5000) (hny : (dg y).length ≤ 5000) (hA : Rm 1 A)
    (k : ∀ u h' t', Fm (Wx mg mb) h₀ L dl h' m led → Q (.int (cmpI x y) u) (St b h' t')) :
    wpAny (model prog w) A (call (.ref f) [.ref a, .ref a']) Q E (St b h t) := by
  cases hd
  refine r_enter F hf hA [("a", .ref a), ("b", .ref a')] [(a, .kI (dg x), false), (a', .kI (dg y), false)] ⟨⟨hx, rfl⟩, ⟨hy, rfl⟩, trivial⟩ ?_
  intro L' h₁ t₁ code F₁
  refine execs_ifC ?_
  (refine r_len (by with_reducible assumption) (by rfl) (by walk_at "m_has") (by walk_at "m_n") ?_ (by walk_at "m_mem"); intro _ _)
  (refine r_len (by with_reducible assumption) (by rfl) (by walk_at "m_has") (by walk_at "m_n") ?_ (by walk_at "m_mem"); intro _ _)
  with_reducible refine P.ne_int ?_
  with_reducible refine wpAny_truthy_bool ?_
  refine ite_bne (fun q1 => ?_) (fun q1 => ?_)
  · with_reducible refine wpAny_execs_cons ?_
    with_reducible refine wpAny_Return_some ?_
    with_reducible refine wpAny_IfExp ?_
    refine wpAny_isTrue_Compare1 ?_
    (refine r_len (by with_reducible assumption) (by rfl) (by walk_at "m_has") (by walk_at "m_n") ?_ (by walk_at "m_mem"); intro _ _)
    (refine r_len (by with_reducible assumption) (by rfl) (by walk_at "m_has") (by walk_at "m_n") ?_ (by walk_at "m_mem"); intro _ _)
    with_reducible refine P.lt_int ?_
    with_reducible refine wpAny_truthy_bool ?_
    skip
    refine ite_dec (fun q2 => ?_) (fun q2 => ?_)
    · with_reducible refine wpAny_UnaryOp ?_
      ((with_reducible refine x_int ?_); intro _ _)
      ((with_reducible refine x_neg ?_); intro _ _)
      have := len_lt (x := x) (y := y) (by walk_at "m_n")
      have e : cmpI x y = -1 := by unfold cmpI; rw [if_pos this]
      rw [← e]; exact k _ _ _ (F.back0 F₁)
    · ((with_reducible refine x_int ?_); intro _ _)
      have := len_lt (x := y) (y := x) (by walk_at "m_n")
      have e : cmpI x y = 1 := by unfold cmpI; rw [if_neg (by walk_at "m_n"), if_neg (by walk_at "m_n")]
      rw [← e]; exact k _ _ _ (F.back0 F₁)
  · with_reducible refine wpAny_execs_nil ?_
    with_reducible refine wpAny_execs_cons ?_
    refine wpAny_For ?_
    refine r_tcall bb_range (by with_reducible assumption) (by walk_at "m_mem") ?_
    refine args_cons ?_
    with_reducible refine wpAny_BinOp ?_
    (refine r_len (by with_reducible assumption) (by rfl) (by walk_at "m_has") (by walk_at "m_n") ?_ (by walk_at "m_mem"); intro _ _)
    ((with_reducible refine x_int ?_); intro _ _)
    ((with_reducible refine x_sub ?_); intro _ _)
    refine args_cons ?_
    with_reducible refine wpAny_UnaryOp ?_
    ((with_reducible refine x_int ?_); intro _ _)
    ((with_reducible refine x_neg ?_); intro _ _)
    refine args_cons ?_
    with_reducible refine wpAny_UnaryOp ?_
    ((with_reducible refine x_int ?_); intro _ _)
    ((with_reducible refine x_neg ?_); intro _ _)
    with_reducible refine args_nil ?_
    (refine x_range3 (by with_reducible assumption) ?_; intro _ _ _ _)
    have hl : (dg x).length = (dg y).length := by walk_at "m_n"
    refine r_down (dg x).length (by walk_at "m_n") (by assumption) (by walk_at "m_mem") (by walk_at "m_n") hA.hd (σ := Unit) (fun _ => none) (fun _ => [("a", .ref a), ("b", .ref a')]) (fun _ => []) [(a, .kI (dg x), false), (a', .kI (dg y), false)] (fun p _ => (dg x).drop p = (dg y).drop p) () rfl (by walk_at "m_Sub") (by walk_at "m_sub") (fun _ _ q => nomatch q)
      (by rw [List.drop_of_length_le (Nat.le_refl _), List.drop_of_length_le (by walk_at "m_n")]) ?_ ?_
    · rintro j ⟨⟩ u' h₂ t₂ o I E' hj hJ F₂
      dsimp only [List.nil_append, List.cons_append] at hJ F₂ ⊢
      refine execs_ifC ?_
      refine Subscript_ ?_
      refine r_loc (by with_reducible assumption) (by rfl) ?_
      refine r_loc (by with_reducible assumption) (by rfl) ?_
      (refine x_item (by walk_at "m_has") (by walk_at "m_n") (by walk_at "m_n") (by walk_at "m_n") ?_; intro _)
      refine Subscript_ ?_
      refine r_loc (by with_reducible assumption) (by rfl) ?_
      refine r_loc (by with_reducible assumption) (by rfl) ?_
      (refine x_item (by walk_at "m_has") (by walk_at "m_n") (by walk_at "m_n") (by walk_at "m_n") ?_; intro _)
      with_reducible refine P.ne_int ?_
      with_reducible refine wpAny_truthy_bool ?_
      refine ite_bne (fun q2 => ?_) (fun q2 => ?_)
      · with_reducible refine wpAny_execs_cons ?_
        with_reducible refine wpAny_Return_some ?_
        with_reducible refine wpAny_IfExp ?_
        refine wpAny_isTrue_Compare1 ?_
        refine Subscript_ ?_
        refine r_loc (by with_reducible assumption) (by rfl) ?_
        refine r_loc (by with_reducible assumption) (by rfl) ?_
        (refine x_item (by walk_at "m_has") (by walk_at "m_n") (by walk_at "m_n") (by walk_at "m_n") ?_; intro _)
        refine Subscript_ ?_
        refine r_loc (by with_reducible assumption) (by rfl) ?_
        refine r_loc (by with_reducible assumption) (by rfl) ?_
        (refine x_item (by walk_at "m_has") (by walk_at "m_n") (by walk_at "m_n") (by walk_at "m_n") ?_; intro _)
        with_reducible refine P.lt_int ?_
        with_reducible refine wpAny_truthy_bool ?_
        skip
        refine ite_dec (fun q3 => ?_) (fun q3 => ?_)
        · with_reducible refine wpAny_UnaryOp ?_
          ((with_reducible refine x_int ?_); intro _ _)
          ((with_reducible refine x_neg ?_); intro _ _)
          have := cmp_lt (ok_dg x) (ok_dg y) hl hj hJ (by simpa using q3)
          rw [vl_dg, vl_dg] at this
          have e : cmpI x y = -1 := by unfold cmpI; rw [if_pos (by walk_at "m_n")]
          show Q _ _
          rw [← e]; exact k _ _ _ (F.back0 F₂)
        · ((with_reducible refine x_int ?_); intro _ _)
          have := cmp_lt (i := j) (ok_dg y) (ok_dg x) hl.symm (by walk_at "m_n") hJ.symm (by simp only [Int.toNat_natCast] at q2 q3; walk_at "m_n")
          rw [vl_dg, vl_dg] at this
          have e : cmpI x y = 1 := by unfold cmpI; rw [if_neg (by walk_at "m_n"), if_neg (by walk_at "m_n")]
          show Q _ _
          rw [← e]; exact k _ _ _ (F.back0 F₂)
      · with_reducible refine wpAny_execs_nil ?_
        with_reducible refine wpAny_execs_nil ?_
        refine turn_next () (by assumption) rfl (by walk_at "m_Sub") (by walk_at "m_sub") ?_
        try dsimp only
        rw [drop_getD hj, drop_getD (xs := dg y) (by walk_at "m_n"), hJ]
        simp only [Int.toNat_natCast] at q2
        rw [q2]
    · rintro ⟨⟩ h₂ t₂ hJ F₂
      dsimp only [List.nil_append, List.cons_append] at hJ F₂ ⊢
      with_reducible refine wpAny_execs_cons ?_
      with_reducible refine wpAny_Return_some ?_
      ((with_reducible refine x_int ?_); intro _ _)
      skip
      have : x = y := dg_inj (by simpa using hJ)
      have e : cmpI x y = 0 := by unfold cmpI; rw [if_neg (by walk_at "m_n"), if_pos (by walk_at "m_n")]
      rw [← e]; exact k _ _ _ (F.back0 F₂)
end
section
variable {mg mb : Str → Option Value} {prog : Program} {w : World} {A : Around} {E : Value → Shared → Prop} {b : Shared} {h₀ h : Heap} {L a a' f : Addr} {dl : Option (Addr × Kd)} {t : Nat}
  {m : List (Str × Value)} {led : List Ent} {Q : Value → Shared → Prop} {nm : Str} {ps : Arguments} {bd : List Stmt} {sc : Scope}

theorem add_c {x y : Nat} (F : Fm (Wx mg mb) h₀ L dl h m led) (hd : defAt pw 7 = some (nm, ps, bd, sc)) (hf : FnRef h₀ f (nm, ps, bd, sc)) (hx : Is h a (.kI (dg x))) (hy : Is h a' (.kI (dg y)))
    (hnx : (dg x).length ≤ 5000) (hny : (dg y).length ≤ 5000) (hA : Rm 1 A)
    (k : ∀ r h' t', Fm (Wx mg mb) h₀ L dl h' m ((r, .kP (dg (x + y)), true) :: led) → Q (.ref r) (St b h' t')) :
    wpAny (model prog w) A (call (.ref f) [.ref a, .ref a']) Q E (St b h t) := by
  cases hd
  refine r_enter F hf hA [("a", .ref a), ("b", .ref a')] [(a, .kI (dg x), false), (a', .kI (dg y), false)] ⟨⟨hx, rfl⟩, ⟨hy, rfl⟩, trivial⟩ ?_
  intro L' h₁ t₁ code F₁
  have hh := hA.hd
  refine execs_asg ?_
  with_reducible refine List_ ?_
  with_reducible refine args_nil ?_
  skip
  refine x_newListD (by assumption) .nil (by decide) ?_
  intro D h₂ F₂
  (refine r_store (by with_reducible assumption) ?_; intro _ _ _)
  refine execs_asg ?_
  ((with_reducible refine x_int ?_); intro _ _)
  (refine r_store (by with_reducible assumption) ?_; intro _ _ _)
  with_reducible refine wpAny_execs_cons ?_
  refine wpAny_For ?_
  refine r_tcall bb_range (by with_reducible assumption) (by walk_at "m_mem") ?_
  refine args_cons ?_
  refine r_bcall bb_max (by with_reducible assumption) (by walk_at "m_mem") ?_
  refine args_cons ?_
  (refine r_len (by with_reducible assumption) (by rfl) (by walk_at "m_has") (by walk_at "m_n") ?_ (by walk_at "m_mem"); intro _ _)
  refine args_cons ?_
  (refine r_len (by with_reducible assumption) (by rfl) (by walk_at "m_has") (by walk_at "m_n") ?_ (by walk_at "m_mem"); intro _ _)
  with_reducible refine args_nil ?_
  (refine x_max (by with_reducible assumption) (by assumption) ?_; intro _ _ _ _)
  with_reducible refine args_nil ?_
  (refine x_range1 (by with_reducible assumption) ?_; intro _ _ _ _ _ _ _)
  refine r_up (max (dg x).length (dg y).length) (by walk_at "m_n") (by assumption) (by walk_at "m_mem") (by walk_at "m_n") hh (σ := List Int × Int × Tok) (fun c => some (D, .kP c.1)) (fun c => [("total", .ref D), ("carry", .int c.2.1 c.2.2), ("a", .ref a), ("b", .ref a')]) (fun _ => []) [(a, .kI (dg x), false), (a', .kI (dg y), false)]
    (fun i c => AddJ (dg x) (dg y) c.1 c.2.1 i) ([], 0, _) rfl (by walk_at "m_Sub") (by walk_at "m_sub") (fun _ _ q => nomatch q) ⟨rfl, ok_nil, by simp, by simp, by simp [vl]⟩ ?_ ?_
  · rintro j ⟨tot, c, u⟩ u' h₂ t₂ o I E' hj hJ F₂
    dsimp only [List.nil_append, List.cons_append] at hJ F₂ ⊢
    have hl := hJ.len
    refine execs_asg ?_
    refine r_loc (by with_reducible assumption) (by rfl) ?_
    (refine r_store (by with_reducible assumption) ?_; intro _ _ _)
    refine execs_ifC ?_
    refine r_loc (by with_reducible assumption) (by rfl) ?_
    (refine r_len (by with_reducible assumption) (by rfl) (by walk_at "m_has") (by walk_at "m_n") ?_ (by walk_at "m_mem"); intro _ _)
    with_reducible refine P.lt_int ?_
    with_reducible refine wpAny_truthy_bool ?_
    refine ite_dec (fun q1 => ?_) (fun q1 => ?_)
    · with_reducible refine wpAny_execs_cons ?_
      with_reducible refine wpAny_AugAssign_Name ?_
      refine r_locn (by with_reducible assumption) (by rfl) ?_
      refine Subscript_ ?_
      refine r_loc (by with_reducible assumption) (by rfl) ?_
      refine r_loc (by with_reducible assumption) (by rfl) ?_
      (refine x_item (by walk_at "m_has") (by walk_at "m_n") (by walk_at "m_n") (by walk_at "m_n") ?_; intro _)
      ((with_reducible refine x_iadd ?_); intro _ _)
      (refine r_store (by with_reducible assumption) ?_; intro _ _ _)
      with_reducible refine wpAny_execs_nil ?_
      refine execs_ifC ?_
      refine r_loc (by with_reducible assumption) (by rfl) ?_
      (refine r_len (by with_reducible assumption) (by rfl) (by walk_at "m_has") (by walk_at "m_n") ?_ (by walk_at "m_mem"); intro _ _)
      with_reducible refine P.lt_int ?_
      with_reducible refine wpAny_truthy_bool ?_
      refine ite_dec (fun q2 => ?_) (fun q2 => ?_)
      · with_reducible refine wpAny_execs_cons ?_
        with_reducible refine wpAny_AugAssign_Name ?_
        refine r_locn (by with_reducible assumption) (by rfl) ?_
        refine Subscript_ ?_
        refine r_loc (by with_reducible assumption) (by rfl) ?_
        refine r_loc (by with_reducible assumption) (by rfl) ?_
        (refine x_item (by walk_at "m_has") (by walk_at "m_n") (by walk_at "m_n") (by walk_at "m_n") ?_; intro _)
        ((with_reducible refine x_iadd ?_); intro _ _)
        (refine r_store (by with_reducible assumption) ?_; intro _ _ _)
        with_reducible refine wpAny_execs_nil ?_
        with_reducible refine wpAny_execs_cons ?_
        refine wpAny_Expr_any ?_
        refine x_appendCall (by with_reducible assumption) (by rfl) ?_
        with_reducible refine wpAny_BinOp ?_
        refine r_loc (by with_reducible assumption) (by rfl) ?_
        (refine r_base (by with_reducible assumption) ?_; intro _)
        ((with_reducible refine x_mod (by walk_at "m_n") ?_); intro _ _)
        (refine x_append (by with_reducible assumption) (by walk_at "m_n") ?_; intro _ _)
        refine execs_asg ?_
        with_reducible refine wpAny_BinOp ?_
        refine r_loc (by with_reducible assumption) (by rfl) ?_
        (refine r_base (by with_reducible assumption) ?_; intro _)
        ((with_reducible refine x_div (by walk_at "m_n") (by walk_at "m_n") ?_); intro _ _)
        (refine r_store (by with_reducible assumption) ?_; intro _ _ _)
        with_reducible refine wpAny_execs_nil ?_
        refine turn_next (_, _, _) (by assumption) rfl (by walk_at "m_Sub") (by walk_at "m_sub") ?_
        exact hJ.step (ok_dg x) (ok_dg y) (by simp only [Int.toNat_natCast])
      · with_reducible refine wpAny_execs_nil ?_
        with_reducible refine wpAny_execs_cons ?_
        refine wpAny_Expr_any ?_
        refine x_appendCall (by with_reducible assumption) (by rfl) ?_
        with_reducible refine wpAny_BinOp ?_
        refine r_loc (by with_reducible assumption) (by rfl) ?_
        (refine r_base (by with_reducible assumption) ?_; intro _)
        ((with_reducible refine x_mod (by walk_at "m_n") ?_); intro _ _)
        (refine x_append (by with_reducible assumption) (by walk_at "m_n") ?_; intro _ _)
        refine execs_asg ?_
        with_reducible refine wpAny_BinOp ?_
        refine r_loc (by with_reducible assumption) (by rfl) ?_
        (refine r_base (by with_reducible assumption) ?_; intro _)
        ((with_reducible refine x_div (by walk_at "m_n") (by walk_at "m_n") ?_); intro _ _)
        (refine r_store (by with_reducible assumption) ?_; intro _ _ _)
        with_reducible refine wpAny_execs_nil ?_
        refine turn_next (_, _, _) (by assumption) rfl (by walk_at "m_Sub") (by walk_at "m_sub") ?_
        exact hJ.step (ok_dg x) (ok_dg y) (by rw [getD_ge (xs := dg y) (by walk_at "m_n")]; simp only [Int.toNat_natCast]; walk_at "m_n")
    · with_reducible refine wpAny_execs_nil ?_
      refine execs_ifC ?_
      refine r_loc (by with_reducible assumption) (by rfl) ?_
      (refine r_len (by with_reducible assumption) (by rfl) (by walk_at "m_has") (by walk_at "m_n") ?_ (by walk_at "m_mem"); intro _ _)
      with_reducible refine P.lt_int ?_
      with_reducible refine wpAny_truthy_bool ?_
      refine ite_dec (fun q2 => ?_) (fun q2 => ?_)
      · with_reducible refine wpAny_execs_cons ?_
        with_reducible refine wpAny_AugAssign_Name ?_
        refine r_locn (by with_reducible assumption) (by rfl) ?_
        refine Subscript_ ?_
        refine r_loc (by with_reducible assumption) (by rfl) ?_
        refine r_loc (by with_reducible assumption) (by rfl) ?_
        (refine x_item (by walk_at "m_has") (by walk_at "m_n") (by walk_at "m_n") (by walk_at "m_n") ?_; intro _)
        ((with_reducible refine x_iadd ?_); intro _ _)
        (refine r_store (by with_reducible assumption) ?_; intro _ _ _)
        with_reducible refine wpAny_execs_nil ?_
        with_reducible refine wpAny_execs_cons ?_
        refine wpAny_Expr_any ?_
        refine x_appendCall (by with_reducible assumption) (by rfl) ?_
        with_reducible refine wpAny_BinOp ?_
        refine r_loc (by with_reducible assumption) (by rfl) ?_
        (refine r_base (by with_reducible assumption) ?_; intro _)
        ((with_reducible refine x_mod (by walk_at "m_n") ?_); intro _ _)
        (refine x_append (by with_reducible assumption) (by walk_at "m_n") ?_; intro _ _)
        refine execs_asg ?_
        with_reducible refine wpAny_BinOp ?_
        refine r_loc (by with_reducible assumption) (by rfl) ?_
        (refine r_base (by with_reducible assumption) ?_; intro _)
        ((with_reducible refine x_div (by walk_at "m_n") (by walk_at "m_n") ?_); intro _ _)
        (refine r_store (by with_reducible assumption) ?_; intro _ _ _)
        with_reducible refine wpAny_execs_nil ?_
        refine turn_next (_, _, _) (by assumption) rfl (by walk_at "m_Sub") (by walk_at "m_sub") ?_
        exact hJ.step (ok_dg x) (ok_dg y) (by rw [getD_ge (xs := dg x) (by walk_at "m_n")]; simp only [Int.toNat_natCast]; walk_at "m_n")
      · exfalso; walk_at "m_n"
  · rintro ⟨tot, c, u⟩ h₂ t₂ hJ F₂
    dsimp only [List.nil_append, List.cons_append] at hJ F₂ ⊢
    have hl := hJ.len
    refine execs_ifC ?_
    refine r_loc (by with_reducible assumption) (by rfl) ?_
    ((with_reducible refine x_int ?_); intro _ _)
    with_reducible refine P.gt_int ?_
    with_reducible refine wpAny_truthy_bool ?_
    refine ite_dec (fun q1 => ?_) (fun q1 => ?_)
    · with_reducible refine wpAny_execs_cons ?_
      refine wpAny_Expr_any ?_
      refine x_appendCall (by with_reducible assumption) (by rfl) ?_
      refine r_loc (by with_reducible assumption) (by rfl) ?_
      (refine x_append (by with_reducible assumption) (by walk_at "m_n") ?_; intro _ _)
      with_reducible refine wpAny_execs_nil ?_
      with_reducible refine wpAny_execs_cons ?_
      with_reducible refine wpAny_Return_some ?_
      refine r_loc (by with_reducible assumption) (by rfl) ?_
      skip
      have e := hJ.fin1 q1
      rename_i F₃
      rw [e] at F₃
      exact k D _ _ (F.back F₃.unD (by walk_at "m_mem"))
    · with_reducible refine wpAny_execs_nil ?_
      with_reducible refine wpAny_execs_cons ?_
      with_reducible refine wpAny_Return_some ?_
      refine r_loc (by with_reducible assumption) (by rfl) ?_
      skip
      have e := hJ.fin0 q1
      rw [e] at F₂
      exact k D _ _ (F.back F₂.unD (by walk_at "m_mem"))
end
section
variable {mg mb : Str → Option Value} {prog : Program} {w : World} {A : Around} {E : Value → Shared → Prop} {b : Shared} {h₀ h : Heap} {L a a' f : Addr} {dl : Option (Addr × Kd)} {t : Nat}
  {m : List (Str × Value)} {led : List Ent} {Q : Value → Shared → Prop} {nm : Str} {ps : Arguments} {bd : List Stmt} {sc : Scope}

theorem sub_c {x y : Nat} (F : Fm (Wx mg mb) h₀ L dl h m led) (hd : defAt pw 8 = some (nm, ps, bd, sc)) (hf : FnRef h₀ f (nm, ps, bd, sc)) (hx : Is h a (.kI (dg x))) (hy : Is h a' (.kI (dg y)))
    (hnx : (dg x).length ≤ 5000) (hle : y ≤ x) (hA : Rm 2 A)
    (k : ∀ r h' t', Fm (Wx mg mb) h₀ L dl h' m ((r, .kP (dg (x - y)), true) :: led) → Q (.ref r) (St b h' t')) :
    wpAny (model prog w) A (call (.ref f) [.ref a, .ref a']) Q E (St b h t) := by
  cases hd
  refine r_enter F hf (hA.le (by walk_at "m_n")) [("a", .ref a), ("b", .ref a')] [(a, .kI (dg x), false), (a', .kI (dg y), false)] ⟨⟨hx, rfl⟩, ⟨hy, rfl⟩, trivial⟩ ?_
  intro L' h₁ t₁ code F₁
  have hh := hA.hd
  have hny := len_mono hle
  refine execs_ifC ?_
  (refine r_callL2 (by with_reducible assumption) (by rfl) (by rfl) (by rfl) (by rfl) ?_; intro _ _)
  skip
  refine ⟨Fm.keep (by with_reducible assumption), compare_c (by with_reducible assumption) (by rfl) (by assumption) (by walk_at "m_has") (by walk_at "m_has") (by walk_at "m_n") (by walk_at "m_n") hA.deeper ?_⟩
  intro u' h₂ t₂ F₂
  have hc : ¬ cmpI x y < 0 := by unfold cmpI; split <;> (try split) <;> omega
  ((with_reducible refine x_int ?_); intro _ _)
  with_reducible refine P.lt_int ?_
  with_reducible refine wpAny_truthy_bool ?_
  refine ite_dec (fun q1 => absurd q1 hc) (fun q1 => ?_)
  with_reducible refine wpAny_execs_nil ?_
  refine execs_asg ?_
  with_reducible refine List_ ?_
  with_reducible refine args_nil ?_
  skip
  refine x_newListD (by assumption) .nil (by decide) ?_
  intro D h₂ F₂
  (refine r_store (by with_reducible assumption) ?_; intro _ _ _)
  refine execs_asg ?_
  ((with_reducible refine x_int ?_); intro _ _)
  (refine r_store (by with_reducible assumption) ?_; intro _ _ _)
  with_reducible refine wpAny_execs_cons ?_
  refine wpAny_For ?_
  refine r_tcall bb_range (by with_reducible assumption) (by walk_at "m_mem") ?_
  refine args_cons ?_
  (refine r_len (by with_reducible assumption) (by rfl) (by walk_at "m_has") (by walk_at "m_n") ?_ (by walk_at "m_mem"); intro _ _)
  with_reducible refine args_nil ?_
  (refine x_range1 (by with_reducible assumption) ?_; intro _ _ _ _ _ _ _)
  refine r_up (dg x).length (by walk_at "m_n") (by assumption) (by walk_at "m_mem") (by walk_at "m_n") hh (σ := List Int × Int × Tok) (fun c => some (D, .kP c.1)) (fun c => [("rest", .ref D), ("borrow", .int c.2.1 c.2.2), ("a", .ref a), ("b", .ref a')]) (fun _ => []) [(a, .kI (dg x), false), (a', .kI (dg y), false)]
    (fun i c => SubJ (dg x) (dg y) c.1 c.2.1 i) ([], 0, _) rfl (by walk_at "m_Sub") (by walk_at "m_sub") (fun _ _ q => nomatch q) ⟨rfl, ok_nil, by simp, by simp, by simp [vl]⟩ ?_ ?_
  · rintro j ⟨rest, c, u⟩ u' h₂ t₂ o I E' hj hJ F₂
    dsimp only [List.nil_append, List.cons_append] at hJ F₂ ⊢
    have hl := hJ.len
    refine execs_asg ?_
    with_reducible refine wpAny_BinOp ?_
    refine Subscript_ ?_
    refine r_loc (by with_reducible assumption) (by rfl) ?_
    refine r_loc (by with_reducible assumption) (by rfl) ?_
    (refine x_item (by walk_at "m_has") (by walk_at "m_n") (by walk_at "m_n") (by walk_at "m_n") ?_; intro _)
    refine r_loc (by with_reducible assumption) (by rfl) ?_
    ((with_reducible refine x_sub ?_); intro _ _)
    (refine r_store (by with_reducible assumption) ?_; intro _ _ _)
    refine execs_ifC ?_
    refine r_loc (by with_reducible assumption) (by rfl) ?_
    (refine r_len (by with_reducible assumption) (by rfl) (by walk_at "m_has") (by walk_at "m_n") ?_ (by walk_at "m_mem"); intro _ _)
    with_reducible refine P.lt_int ?_
    with_reducible refine wpAny_truthy_bool ?_
    refine ite_dec (fun q1 => ?_) (fun q1 => ?_)
    · with_reducible refine wpAny_execs_cons ?_
      with_reducible refine wpAny_AugAssign_Name ?_
      refine r_locn (by with_reducible assumption) (by rfl) ?_
      refine Subscript_ ?_
      refine r_loc (by with_reducible assumption) (by rfl) ?_
      refine r_loc (by with_reducible assumption) (by rfl) ?_
      (refine x_item (by walk_at "m_has") (by walk_at "m_n") (by walk_at "m_n") (by walk_at "m_n") ?_; intro _)
      ((with_reducible refine x_isub ?_); intro _ _)
      (refine r_store (by with_reducible assumption) ?_; intro _ _ _)
      with_reducible refine wpAny_execs_nil ?_
      refine execs_asg ?_
      ((with_reducible refine x_int ?_); intro _ _)
      (refine r_store (by with_reducible assumption) ?_; intro _ _ _)
      refine execs_ifC ?_
      refine r_loc (by with_reducible assumption) (by rfl) ?_
      ((with_reducible refine x_int ?_); intro _ _)
      with_reducible refine P.lt_int ?_
      with_reducible refine wpAny_truthy_bool ?_
      refine ite_dec (fun q2 => ?_) (fun q2 => ?_)
      · with_reducible refine wpAny_execs_cons ?_
        with_reducible refine wpAny_AugAssign_Name ?_
        refine r_locn (by with_reducible assumption) (by rfl) ?_
        (refine r_base (by with_reducible assumption) ?_; intro _)
        ((with_reducible refine x_iadd ?_); intro _ _)
        (refine r_store (by with_reducible assumption) ?_; intro _ _ _)
        refine execs_asg ?_
        ((with_reducible refine x_int ?_); intro _ _)
        (refine r_store (by with_reducible assumption) ?_; intro _ _ _)
        with_reducible refine wpAny_execs_nil ?_
        with_reducible refine wpAny_execs_cons ?_
        refine wpAny_Expr_any ?_
        refine x_appendCall (by with_reducible assumption) (by rfl) ?_
        refine r_loc (by with_reducible assumption) (by rfl) ?_
        (refine x_append (by with_reducible assumption) (by walk_at "m_n") ?_; intro _ _)
        with_reducible refine wpAny_execs_nil ?_
        refine turn_next (_, _, _) (by assumption) rfl (by walk_at "m_Sub") (by walk_at "m_sub") ?_
        exact hJ.step (ok_dg x) (ok_dg y) rfl (.inl ⟨by simp only [Int.toNat_natCast] at q2; exact q2, by simp only [Int.toNat_natCast], rfl⟩)
      · with_reducible refine wpAny_execs_nil ?_
        with_reducible refine wpAny_execs_cons ?_
        refine wpAny_Expr_any ?_
        refine x_appendCall (by with_reducible assumption) (by rfl) ?_
        refine r_loc (by with_reducible assumption) (by rfl) ?_
        (refine x_append (by with_reducible assumption) (by walk_at "m_n") ?_; intro _ _)
        with_reducible refine wpAny_execs_nil ?_
        refine turn_next (_, _, _) (by assumption) rfl (by walk_at "m_Sub") (by walk_at "m_sub") ?_
        exact hJ.step (ok_dg x) (ok_dg y) rfl (.inr ⟨by simp only [Int.toNat_natCast] at q2; omega, by simp only [Int.toNat_natCast], rfl⟩)
    · with_reducible refine wpAny_execs_nil ?_
      refine execs_asg ?_
      ((with_reducible refine x_int ?_); intro _ _)
      (refine r_store (by with_reducible assumption) ?_; intro _ _ _)
      refine execs_ifC ?_
      refine r_loc (by with_reducible assumption) (by rfl) ?_
      ((with_reducible refine x_int ?_); intro _ _)
      with_reducible refine P.lt_int ?_
      with_reducible refine wpAny_truthy_bool ?_
      have z := getD_ge (xs := dg y) (i := j) (by walk_at "m_n")
      refine ite_dec (fun q2 => ?_) (fun q2 => ?_)
      · with_reducible refine wpAny_execs_cons ?_
        with_reducible refine wpAny_AugAssign_Name ?_
        refine r_locn (by with_reducible assumption) (by rfl) ?_
        (refine r_base (by with_reducible assumption) ?_; intro _)
        ((with_reducible refine x_iadd ?_); intro _ _)
        (refine r_store (by with_reducible assumption) ?_; intro _ _ _)
        refine execs_asg ?_
        ((with_reducible refine x_int ?_); intro _ _)
        (refine r_store (by with_reducible assumption) ?_; intro _ _ _)
        with_reducible refine wpAny_execs_nil ?_
        with_reducible refine wpAny_execs_cons ?_
        refine wpAny_Expr_any ?_
        refine x_appendCall (by with_reducible assumption) (by rfl) ?_
        refine r_loc (by with_reducible assumption) (by rfl) ?_
        (refine x_append (by with_reducible assumption) (by walk_at "m_n") ?_; intro _ _)
        with_reducible refine wpAny_execs_nil ?_
        refine turn_next (_, _, _) (by assumption) rfl (by walk_at "m_Sub") (by walk_at "m_sub") ?_
        exact hJ.step (ok_dg x) (ok_dg y) rfl (.inl ⟨by simp only [Int.toNat_natCast] at q2; omega, by simp only [Int.toNat_natCast]; omega, rfl⟩)
      · with_reducible refine wpAny_execs_nil ?_
        with_reducible refine wpAny_execs_cons ?_
        refine wpAny_Expr_any ?_
        refine x_appendCall (by with_reducible assumption) (by rfl) ?_
        refine r_loc (by with_reducible assumption) (by rfl) ?_
        (refine x_append (by with_reducible assumption) (by walk_at "m_n") ?_; intro _ _)
        with_reducible refine wpAny_execs_nil ?_
        refine turn_next (_, _, _) (by assumption) rfl (by walk_at "m_Sub") (by walk_at "m_sub") ?_
        exact hJ.step (ok_dg x) (ok_dg y) rfl (.inr ⟨by simp only [Int.toNat_natCast] at q2; omega, by simp only [Int.toNat_natCast]; omega, rfl⟩)
  · rintro ⟨rest, c, u⟩ h₂ t₂ hJ F₂
    dsimp only [List.nil_append, List.cons_append] at hJ F₂ ⊢
    have hl := hJ.len
    with_reducible refine wpAny_execs_cons ?_
    with_reducible refine wpAny_Return_some ?_
    (refine r_callL1 (by with_reducible assumption) (by rfl) (by rfl) (by rfl) ?_; intro _ _)
    skip
    refine ⟨Fm.keep (by with_reducible assumption), trimmed_c (by with_reducible assumption) (by rfl) (by assumption) (by walk_at "m_has") (by walk_at "m_n") hJ.ok hA.deeper ?_⟩
    intro r h₃ t₃ F₃
    rw [hJ.fin hle, Int.toNat_natCast] at F₃
    exact k r _ _ (F.back F₃ (by walk_at "m_mem"))

theorem mul_small_c {x d : Nat} {i : Int} {u : Tok} (F : Fm (Wx mg mb) h₀ L dl h m led) (hd : defAt pw 9 = some (nm, ps, bd, sc)) (hf : FnRef h₀ f (nm, ps, bd, sc)) (hx : Is h a (.kI (dg x))) (hi : i = (d : Int))
    (hnx : (dg x).length ≤ 5000) (hd1 : d < 10000) (hA : Rm 1 A)
    (k : ∀ r h' t', Fm (Wx mg mb) h₀ L dl h' m ((r, .kP (dg (x * d)), true) :: led) → Q (.ref r) (St b h' t')) :
    wpAny (model prog w) A (call (.ref f) [.ref a, .int i u]) Q E (St b h t) := by
  cases hd
  subst hi
  refine r_enter F hf hA [("a", .ref a), ("d", .int (d : Int) u)] [(a, .kI (dg x), false)] ⟨⟨hx, rfl⟩, trivial⟩ ?_
  intro L' h₁ t₁ code F₁
  have hh := hA.hd
  refine execs_ifC ?_
  refine r_loc (by with_reducible assumption) (by rfl) ?_
  ((with_reducible refine x_int ?_); intro _ _)
  with_reducible refine P.eq_int ?_
  with_reducible refine wpAny_truthy_bool ?_
  refine ite_beq (fun q1 => ?_) (fun q1 => ?_)
  · with_reducible refine wpAny_execs_cons ?_
    with_reducible refine wpAny_Return_some ?_
    with_reducible refine List_ ?_
    with_reducible refine args_nil ?_
    skip
    refine x_newListD (by assumption) .nil (by decide) ?_
    intro D h₂ F₂
    have e : ([] : List Int) = dg (x * d) := by rw [show d = 0 by omega, Nat.mul_zero, dg_zero]
    rw [e] at F₂
    exact k D _ _ (F.back F₂.unD (by walk_at "m_mem"))
  · with_reducible refine wpAny_execs_nil ?_
    refine execs_asg ?_
    with_reducible refine List_ ?_
    with_reducible refine args_nil ?_
    skip
    refine x_newListD (by assumption) .nil (by decide) ?_
    intro D h₂ F₂
    (refine r_store (by with_reducible assumption) ?_; intro _ _ _)
    refine execs_asg ?_
    ((with_reducible refine x_int ?_); intro _ _)
    (refine r_store (by with_reducible assumption) ?_; intro _ _ _)
    with_reducible refine wpAny_execs_cons ?_
    refine wpAny_For ?_
    refine r_loc (by with_reducible assumption) (by rfl) ?_
    refine r_list (by assumption) (by walk_at "m_mem") hh (σ := List Int × Int × Tok) (fun c => some (D, .kP c.1)) (fun c => [("product", .ref D), ("carry", .int c.2.1 c.2.2), ("d", .int (d : Int) u)]) (fun _ => []) []
      (fun i c => MsJ (dg x) c.1 d c.2.1 i) ([], 0, _) rfl (by walk_at "m_Sub") (by walk_at "m_sub") (fun _ _ q => nomatch q) ⟨rfl, ok_nil, by simp, by simp; omega, by simp [vl]⟩ ?_ ?_
    · rintro j ⟨pr, c, u⟩ u' h₂ t₂ o I oX E' hj hJ F₂
      dsimp only [List.nil_append, List.cons_append] at hJ F₂ ⊢
      have hl := hJ.len
      refine execs_asg ?_
      with_reducible refine wpAny_BinOp ?_
      with_reducible refine wpAny_BinOp ?_
      refine r_loc (by with_reducible assumption) (by rfl) ?_
      refine r_loc (by with_reducible assumption) (by rfl) ?_
      ((with_reducible refine x_mul (by first | exact IntMulOk.of_right (intBits_le_64 (by walk_at "m_n") (by walk_at "m_n")) | exact IntMulOk.of_left (intBits_le_64 (by walk_at "m_n") (by walk_at "m_n")) | exact mul_fits2 (by walk_at "m_n") (by walk_at "m_n") (by walk_at "m_n") (by walk_at "m_n")) ?_); intro _ _)
      refine r_loc (by with_reducible assumption) (by rfl) ?_
      ((with_reducible refine x_add ?_); intro _ _)
      (refine r_store (by with_reducible assumption) ?_; intro _ _ _)
      with_reducible refine wpAny_execs_cons ?_
      refine wpAny_Expr_any ?_
      refine x_appendCall (by with_reducible assumption) (by rfl) ?_
      with_reducible refine wpAny_BinOp ?_
      refine r_loc (by with_reducible assumption) (by rfl) ?_
      (refine r_base (by with_reducible assumption) ?_; intro _)
      ((with_reducible refine x_mod (by walk_at "m_n") ?_); intro _ _)
      (refine x_append (by with_reducible assumption) (by walk_at "m_n") ?_; intro _ _)
      refine execs_asg ?_
      with_reducible refine wpAny_BinOp ?_
      refine r_loc (by with_reducible assumption) (by rfl) ?_
      (refine r_base (by with_reducible assumption) ?_; intro _)
      ((with_reducible refine x_div (by walk_at "m_n") (by walk_at "m_n") ?_); intro _ _)
      (refine r_store (by with_reducible assumption) ?_; intro _ _ _)
      with_reducible refine wpAny_execs_nil ?_
      refine turn_next (_, _, _) (by assumption) rfl (by walk_at "m_Sub") (by walk_at "m_sub") ?_
      exact hJ.step (ok_dg x) (by walk_at "m_n") rfl
    · rintro ⟨pr, c, u⟩ h₂ t₂ hJ F₂
      dsimp only [List.nil_append, List.cons_append] at hJ F₂ ⊢
      have hl := hJ.len
      refine execs_ifC ?_
      refine r_loc (by with_reducible assumption) (by rfl) ?_
      ((with_reducible refine x_int ?_); intro _ _)
      with_reducible refine P.gt_int ?_
      with_reducible refine wpAny_truthy_bool ?_
      refine ite_dec (fun q1 => ?_) (fun q1 => ?_)
      · with_reducible refine wpAny_execs_cons ?_
        refine wpAny_Expr_any ?_
        refine x_appendCall (by with_reducible assumption) (by rfl) ?_
        refine r_loc (by with_reducible assumption) (by rfl) ?_
        (refine x_append (by with_reducible assumption) (by walk_at "m_n") ?_; intro _ _)
        with_reducible refine wpAny_execs_nil ?_
        with_reducible refine wpAny_execs_cons ?_
        with_reducible refine wpAny_Return_some ?_
        refine r_loc (by with_reducible assumption) (by rfl) ?_
        skip
        have e := hJ.fin1 hd1 q1
        rename_i F₃
        rw [e] at F₃
        exact k D _ _ (F.back F₃.unD (by walk_at "m_mem"))
      · with_reducible refine wpAny_execs_nil ?_
        with_reducible refine wpAny_execs_cons ?_
        with_reducible refine wpAny_Return_some ?_
        refine r_loc (by with_reducible assumption) (by rfl) ?_
        skip
        have e := hJ.fin0 q1
        rw [e] at F₂
        exact k D _ _ (F.back F₂.unD (by walk_at "m_mem"))

theorem shifted_c {x : Nat} {i : Int} {u : Tok} (F : Fm (Wx mg mb) h₀ L dl h m led) (hd : defAt pw 10 = some (nm, ps, bd, sc)) (hf : FnRef h₀ f (nm, ps, bd, sc)) (hx : Is h a (.kI (dg x))) (h0 : 0 ≤ i) (h1 : i < 1000)
    (hnx : (dg x).length ≤ 5000) (hA : Rm 1 A)
    (k : ∀ r h' t', Fm (Wx mg mb) h₀ L dl h' m ((r, .kP (dg (x * 10000 ^ i.toNat)), true) :: led) → Q (.ref r) (St b h' t')) :
    wpAny (model prog w) A (call (.ref f) [.ref a, .int i u]) Q E (St b h t) := by
  cases hd
  refine r_enter F hf hA [("a", .ref a), ("k", .int i u)] [(a, .kI (dg x), false)] ⟨⟨hx, rfl⟩, trivial⟩ ?_
  intro L' h₁ t₁ code F₁
  refine execs_ifC ?_
  (refine r_len (by with_reducible assumption) (by rfl) (by walk_at "m_has") (by walk_at "m_n") ?_ (by walk_at "m_mem"); intro _ _)
  ((with_reducible refine x_int ?_); intro _ _)
  with_reducible refine P.eq_int ?_
  with_reducible refine wpAny_truthy_bool ?_
  refine ite_beq (fun q1 => ?_) (fun q1 => ?_)
  · with_reducible refine wpAny_execs_cons ?_
    with_reducible refine wpAny_Return_some ?_
    with_reducible refine List_ ?_
    with_reducible refine args_nil ?_
    skip
    refine x_newListD (by assumption) .nil (by decide) ?_
    intro D h₂ F₂
    have e : ([] : List Int) = dg (x * 10000 ^ i.toNat) := by
      have hz : x = 0 := dg_nil.mp (List.length_eq_zero_iff.mp (by walk_at "m_n"))
      rw [hz, Nat.zero_mul, dg_zero]
    rw [e] at F₂
    exact k D _ _ (F.back F₂.unD (by walk_at "m_mem"))
  · with_reducible refine wpAny_execs_nil ?_
    with_reducible refine wpAny_execs_cons ?_
    with_reducible refine wpAny_Return_some ?_
    with_reducible refine wpAny_BinOp ?_
    with_reducible refine wpAny_BinOp ?_
    with_reducible refine List_ ?_
    refine args_cons ?_
    ((with_reducible refine x_int ?_); intro _ _)
    with_reducible refine args_nil ?_
    skip
    refine x_newList (by assumption) (by simp) ?_
    intro r₂ h₂ F₂
    refine r_loc (by with_reducible assumption) (by rfl) ?_
    refine x_rep (by assumption) (by walk_at "m_has") (by walk_at "m_n") (by walk_at "m_n") ?_
    intro r₃ h₃ F₃
    refine r_loc (by with_reducible assumption) (by rfl) ?_
    refine x_cat (by assumption) (by walk_at "m_has") (by walk_at "m_has") (by rw [List.length_replicate]; walk_at "m_n") ?_
    intro r₄ h₄ F₄
    rw [shift_dg (fun z => q1 (by rw [z, dg_zero]; rfl))] at F₄
    exact k r₄ _ _ (F.back F₄ (by walk_at "m_mem"))
end
section
variable {mg mb : Str → Option Value} {prog : Program} {w : World} {A : Around} {E : Value → Shared → Prop} {b : Shared} {h₀ h : Heap} {L a a' f : Addr} {dl : Option (Addr × Kd)} {t : Nat}
  {m : List (Str × Value)} {led : List Ent} {Q : Value → Shared → Prop} {nm : Str} {ps : Arguments} {bd : List Stmt} {sc : Scope}

theorem mul_school_c {x y : Nat} (F : Fm (Wx mg mb) h₀ L dl h m led) (hd : defAt pw 11 = some (nm, ps, bd, sc)) (hf : FnRef h₀ f (nm, ps, bd, sc)) (hx : Is h a (.kI (dg x))) (hy : Is h a' (.kI (dg y)))
    (hnx : (dg x).length ≤ 2000) (hny : (dg y).length ≤ 2000) (hA : Rm 2 A)
    (k : ∀ r h' t', Fm (Wx mg mb) h₀ L dl h' m ((r, .kP (dg (x * y)), true) :: led) → Q (.ref r) (St b h' t')) :
    wpAny (model prog w) A (call (.ref f) [.ref a, .ref a']) Q E (St b h t) := by
  cases hd
  refine r_enter F hf (hA.le (by walk_at "m_n")) [("a", .ref a), ("b", .ref a')] [(a, .kI (dg x), false), (a', .kI (dg y), false)] ⟨⟨hx, rfl⟩, ⟨hy, rfl⟩, trivial⟩ ?_
  intro L' h₁ t₁ code F₁
  have hh := hA.hd
  refine execs_asg ?_
  with_reducible refine wpAny_BinOp ?_
  with_reducible refine List_ ?_
  refine args_cons ?_
  ((with_reducible refine x_int ?_); intro _ _)
  with_reducible refine args_nil ?_
  skip
  refine x_newList (by assumption) (by simp) ?_
  intro r₂ h₂ F₂
  with_reducible refine wpAny_BinOp ?_
  (refine r_len (by with_reducible assumption) (by rfl) (by walk_at "m_has") (by walk_at "m_n") ?_ (by walk_at "m_mem"); intro _ _)
  (refine r_len (by with_reducible assumption) (by rfl) (by walk_at "m_has") (by walk_at "m_n") ?_ (by walk_at "m_mem"); intro _ _)
  ((with_reducible refine x_add ?_); intro _ _)
  refine x_repD (by assumption) (by walk_at "m_has") (by walk_at "m_n") (by walk_at "m_n") ?_
  intro D h₃ F₃
  rw [show (((dg x).length : Int) + ((dg y).length : Int)).toNat = (dg x).length + (dg y).length by walk_at "m_n"] at F₃
  replace F₃ := F₃.alsoD Is.pl_ints
  (refine r_store (by with_reducible assumption) ?_; intro _ _ _)
  with_reducible refine wpAny_execs_cons ?_
  refine wpAny_For ?_
  refine r_tcall bb_range (by with_reducible assumption) (by walk_at "m_mem") ?_
  refine args_cons ?_
  (refine r_len (by with_reducible assumption) (by rfl) (by walk_at "m_has") (by walk_at "m_n") ?_ (by walk_at "m_mem"); intro _ _)
  with_reducible refine args_nil ?_
  (refine x_range1 (by with_reducible assumption) ?_; intro _ _ _ _ _ _ _)
  rename_i r₁ h₄ t₄ u₁ u₂ u₃ F₄
  refine r_up (dg x).length (by walk_at "m_n") F₄ (by walk_at "m_mem") (by walk_at "m_n") hh (σ := List Int) (fun c => some (D, .kI c)) (fun c => [("row", .ref D), ("a", .ref a), ("b", .ref a')]) (fun _ => []) [(a, .kI (dg x), false), (a', .kI (dg y), false)]
    (fun i c => RowJ (dg x) (dg y) c i) _ rfl (by walk_at "m_Sub") (by walk_at "m_sub") (fun _ _ q => nomatch q) (RowJ.start _ _) ?_ ?_
  · rintro i row u' h₅ t₅ o I E' hi hJ F₅
    dsimp only [List.nil_append, List.cons_append] at hJ F₅ ⊢
    have hxi := ok_getD (ok_dg x) (i : Int).toNat
    refine execs_asg ?_
    ((with_reducible refine x_int ?_); intro _ _)
    (refine r_store (by with_reducible assumption) ?_; intro _ _ _)
    with_reducible refine wpAny_execs_cons ?_
    refine wpAny_For ?_
    refine r_tcall bb_range (by with_reducible assumption) (by walk_at "m_mem") ?_
    refine args_cons ?_
    (refine r_len (by with_reducible assumption) (by rfl) (by walk_at "m_has") (by walk_at "m_n") ?_ (by walk_at "m_mem"); intro _ _)
    with_reducible refine args_nil ?_
    (refine x_range1 (by with_reducible assumption) ?_; intro _ _ _ _ _ _ _)
    refine r_up (dg y).length (by walk_at "m_n") (by assumption) (by walk_at "m_mem") (by walk_at "m_n") hh (σ := List Int × Int × Tok) (fun c => some (D, .kI c.1)) (fun c => [("row", .ref D), ("carry", .int c.2.1 c.2.2), ("i", .int (i : Int) u'), ("a", .ref a), ("b", .ref a')]) (fun _ => [])
      [(I, .kR o, true), (r₁, _, true), (a, .kI (dg x), false), (a', .kI (dg y), false)]
      (fun j c => RowK (dg x) (dg y) c.1 c.2.1 i j) (row, 0, _) rfl (by walk_at "m_Sub") (by walk_at "m_sub") (fun _ _ q => nomatch q) hJ.inner ?_ ?_
    · rintro j ⟨row, c, uc⟩ u'' h₅ t₅ o I E' hj hJ F₅
      dsimp only [List.nil_append, List.cons_append] at hJ F₅ ⊢
      have hl := hJ.len
      have hyj := ok_getD (ok_dg y) (j : Int).toNat
      refine execs_asg ?_
      with_reducible refine wpAny_BinOp ?_
      with_reducible refine wpAny_BinOp ?_
      refine Subscript_ ?_
      refine r_loc (by with_reducible assumption) (by rfl) ?_
      with_reducible refine wpAny_BinOp ?_
      refine r_loc (by with_reducible assumption) (by rfl) ?_
      refine r_loc (by with_reducible assumption) (by rfl) ?_
      ((with_reducible refine x_add ?_); intro _ _)
      (refine x_item (by walk_at "m_has") (by walk_at "m_n") (by walk_at "m_n") (by walk_at "m_n") ?_; intro _)
      with_reducible refine wpAny_BinOp ?_
      refine Subscript_ ?_
      refine r_loc (by with_reducible assumption) (by rfl) ?_
      refine r_loc (by with_reducible assumption) (by rfl) ?_
      (refine x_item (by walk_at "m_has") (by walk_at "m_n") (by walk_at "m_n") (by walk_at "m_n") ?_; intro _)
      refine Subscript_ ?_
      refine r_loc (by with_reducible assumption) (by rfl) ?_
      refine r_loc (by with_reducible assumption) (by rfl) ?_
      (refine x_item (by walk_at "m_has") (by walk_at "m_n") (by walk_at "m_n") (by walk_at "m_n") ?_; intro _)
      ((with_reducible refine x_mul (by first | exact IntMulOk.of_right (intBits_le_64 (by walk_at "m_n") (by walk_at "m_n")) | exact IntMulOk.of_left (intBits_le_64 (by walk_at "m_n") (by walk_at "m_n")) | exact mul_fits2 (by walk_at "m_n") (by walk_at "m_n") (by walk_at "m_n") (by walk_at "m_n")) ?_); intro _ _)
      ((with_reducible refine x_add ?_); intro _ _)
      refine r_loc (by with_reducible assumption) (by rfl) ?_
      ((with_reducible refine x_add ?_); intro _ _)
      (refine r_store (by with_reducible assumption) ?_; intro _ _ _)
      with_reducible refine wpAny_execs_cons ?_
      refine wpAny_Assign_Subscript ?_
      with_reducible refine wpAny_BinOp ?_
      refine r_loc (by with_reducible assumption) (by rfl) ?_
      (refine r_base (by with_reducible assumption) ?_; intro _)
      ((with_reducible refine x_mod (by walk_at "m_n") ?_); intro _ _)
      refine r_loc (by with_reducible assumption) (by rfl) ?_
      with_reducible refine wpAny_BinOp ?_
      refine r_loc (by with_reducible assumption) (by rfl) ?_
      refine r_loc (by with_reducible assumption) (by rfl) ?_
      ((with_reducible refine x_add ?_); intro _ _)
      (refine x_setItem (by with_reducible assumption) (by walk_at "m_has") (by walk_at "m_n") (by walk_at "m_n") (by walk_at "m_n") ?_; intro _ _)
      refine execs_asg ?_
      with_reducible refine wpAny_BinOp ?_
      refine r_loc (by with_reducible assumption) (by rfl) ?_
      (refine r_base (by with_reducible assumption) ?_; intro _)
      ((with_reducible refine x_div (by walk_at "m_n") (by walk_at "m_n") ?_); intro _ _)
      (refine r_store (by with_reducible assumption) ?_; intro _ _ _)
      with_reducible refine wpAny_execs_nil ?_
      refine turn_next (_, _, _) (by assumption) rfl (by walk_at "m_Sub") (by walk_at "m_sub") ?_
      skip
      rw [show ((i : Int) + (j : Int)).toNat = i + j by walk_at "m_n"]
      simp only [Int.toNat_natCast]
      exact hJ.step (ok_dg x) (ok_dg y) hi hj rfl
    · rintro ⟨row, c, uc⟩ h₅ t₅ hJ F₅
      dsimp only [List.nil_append, List.cons_append] at hJ F₅ ⊢
      have hl := hJ.len
      with_reducible refine wpAny_execs_cons ?_
      refine wpAny_Assign_Subscript ?_
      refine r_loc (by with_reducible assumption) (by rfl) ?_
      refine r_loc (by with_reducible assumption) (by rfl) ?_
      with_reducible refine wpAny_BinOp ?_
      refine r_loc (by with_reducible assumption) (by rfl) ?_
      (refine r_len (by with_reducible assumption) (by rfl) (by walk_at "m_has") (by walk_at "m_n") ?_ (by walk_at "m_mem"); intro _ _)
      ((with_reducible refine x_add ?_); intro _ _)
      (refine x_setItem (by with_reducible assumption) (by walk_at "m_has") (by walk_at "m_n") (by walk_at "m_n") (by walk_at "m_n") ?_; intro _ _)
      with_reducible refine wpAny_execs_nil ?_
      refine turn_next _ (by assumption) rfl (by walk_at "m_Sub") (by walk_at "m_sub") ?_
      try dsimp only
      rw [show ((i : Int) + ((dg y).length : Int)).toNat = i + (dg y).length by walk_at "m_n"]
      exact hJ.outer hi
  · rintro row h₅ t₅ hJ F₅
    dsimp only [List.nil_append, List.cons_append] at hJ F₅ ⊢
    have hl := hJ.len
    with_reducible refine wpAny_execs_cons ?_
    with_reducible refine wpAny_Return_some ?_
    (refine r_callL1 (by with_reducible assumption) (by rfl) (by rfl) (by rfl) ?_; intro _ _)
    skip
    refine ⟨Fm.keep (by with_reducible assumption), trimmed_c (by with_reducible assumption) (by rfl) (by assumption) (by walk_at "m_has") (by walk_at "m_n") hJ.ok hA.deeper ?_⟩
    intro r h₆ t₆ F₆
    rw [hJ.fin, Int.toNat_natCast] at F₆
    exact k r _ _ (F.back F₆ (by walk_at "m_mem"))
end
section
variable {mg mb : Str → Option Value} {prog : Program} {w : World} {A : Around} {E : Value → Shared → Prop} {b : Shared} {h₀ h : Heap} {L a a' f : Addr} {dl : Option (Addr × Kd)} {t : Nat}
  {m : List (Str × Value)} {led : List Ent} {Q : Value → Shared → Prop} {nm : Str} {ps : Arguments} {bd : List Stmt} {sc : Scope}

theorem split_at_c {x : Nat} {i : Int} {u : Tok} (F : Fm (Wx mg mb) h₀ L dl h m led) (hd : defAt pw 12 = some (nm, ps, bd, sc)) (hf : FnRef h₀ f (nm, ps, bd, sc)) (hx : Is h a (.kI (dg x))) (h0 : 0 ≤ i)
    (hnx : (dg x).length ≤ 5000) (hA : Rm 2 A)
    (k : ∀ r q q' h' t', Fm (Wx mg mb) h₀ L dl h' m ((r, .kT [.ref q, .ref q'], true) :: (q, .kP (dg (x % 10000 ^ i.toNat)), true) :: (q', .kP (dg (x / 10000 ^ i.toNat)), true) :: led) → Q (.ref r) (St b h' t')) :
    wpAny (model prog w) A (call (.ref f) [.ref a, .int i u]) Q E (St b h t) := by
  cases hd
  refine r_enter F hf (hA.le (by walk_at "m_n")) [("a", .ref a), ("k", .int i u)] [(a, .kI (dg x), false)] ⟨⟨hx, rfl⟩, trivial⟩ ?_
  intro L' h₁ t₁ code F₁
  with_reducible refine wpAny_execs_cons ?_
  with_reducible refine wpAny_Return_some ?_
  with_reducible refine Tuple_ ?_
  refine args_cons ?_
  (refine r_callN (by with_reducible assumption) (by rfl) (by rfl) ?_; intro _ _)
  refine args_cons ?_
  (refine x_uptoN (by with_reducible assumption) (by rfl) (by rfl) (by walk_at "m_has") (by walk_at "m_n") (by walk_at "m_n") ?_; intro _ _ _)
  with_reducible refine args_nil ?_
  skip
  have hlen : ((dg x).take i.toNat).length ≤ 5000 := by rw [List.length_take]; walk_at "m_n"
  refine ⟨Fm.keep (by with_reducible assumption), trimmed_c (by with_reducible assumption) (by rfl) (by assumption) (by walk_at "m_has") hlen (ok_take (ok_dg x) _) hA.deeper ?_⟩
  intro r h₃ t₃ F₃
  rw [split_lo, Int.toNat_natCast] at F₃
  refine args_cons ?_
  (refine x_fromN (by with_reducible assumption) (by rfl) (by rfl) (by walk_at "m_has") (by walk_at "m_n") (by walk_at "m_n") ?_; intro _ _ _)
  with_reducible refine args_nil ?_
  (refine x_newTuple (by with_reducible assumption) (by simp) ?_; intro _ _ _)
  rename_i r₂ h₄ F₄ r₃ h₅ F₅
  rw [split_hi] at F₅
  exact k r₃ r r₂ _ _ (F.back3 F₅ (by walk_at "m_mem") (by walk_at "m_mem") (by walk_at "m_mem"))

theorem divmod_small_c {x d : Nat} {i : Int} {u : Tok} (F : Fm (Wx mg mb) h₀ L dl h m led) (hd : defAt pw 13 = some (nm, ps, bd, sc)) (hf : FnRef h₀ f (nm, ps, bd, sc)) (hx : Is h a (.kI (dg x))) (hi : i = (d : Int)) (hd0 : 0 < d) (hd1 : d < 10000)
    (hnx : (dg x).length ≤ 5000) (hA : Rm 2 A)
    (k : ∀ r q u h' t', Fm (Wx mg mb) h₀ L dl h' m ((r, .kT [.ref q, .int ((x % d : Nat) : Int) u], true) :: (q, .kP (dg (x / d)), true) :: led) → Q (.ref r) (St b h' t')) :
    wpAny (model prog w) A (call (.ref f) [.ref a, .int i u]) Q E (St b h t) := by
  cases hd
  subst hi
  refine r_enter F hf (hA.le (by walk_at "m_n")) [("a", .ref a), ("d", .int (d : Int) u)] [(a, .kI (dg x), false)] ⟨⟨hx, rfl⟩, trivial⟩ ?_
  intro L' h₁ t₁ code F₁
  have hh := hA.hd
  refine execs_asg ?_
  with_reducible refine wpAny_BinOp ?_
  with_reducible refine List_ ?_
  refine args_cons ?_
  ((with_reducible refine x_int ?_); intro _ _)
  with_reducible refine args_nil ?_
  skip
  refine x_newList (by assumption) (by simp) ?_
  intro r₂ h₂ F₂
  (refine r_len (by with_reducible assumption) (by rfl) (by walk_at "m_has") (by walk_at "m_n") ?_ (by walk_at "m_mem"); intro _ _)
  refine x_repD (by assumption) (by walk_at "m_has") (by walk_at "m_n") (by walk_at "m_n") ?_
  intro D h₃ F₃
  rw [Int.toNat_natCast] at F₃
  replace F₃ := F₃.alsoD Is.pl_ints
  (refine r_store (by with_reducible assumption) ?_; intro _ _ _)
  refine execs_asg ?_
  ((with_reducible refine x_int ?_); intro _ _)
  (refine r_store (by with_reducible assumption) ?_; intro _ _ _)
  with_reducible refine wpAny_execs_cons ?_
  refine wpAny_For ?_
  refine r_tcall bb_range (by with_reducible assumption) (by walk_at "m_mem") ?_
  refine args_cons ?_
  with_reducible refine wpAny_BinOp ?_
  (refine r_len (by with_reducible assumption) (by rfl) (by walk_at "m_has") (by walk_at "m_n") ?_ (by walk_at "m_mem"); intro _ _)
  ((with_reducible refine x_int ?_); intro _ _)
  ((with_reducible refine x_sub ?_); intro _ _)
  refine args_cons ?_
  with_reducible refine wpAny_UnaryOp ?_
  ((with_reducible refine x_int ?_); intro _ _)
  ((with_reducible refine x_neg ?_); intro _ _)
  refine args_cons ?_
  with_reducible refine wpAny_UnaryOp ?_
  ((with_reducible refine x_int ?_); intro _ _)
  ((with_reducible refine x_neg ?_); intro _ _)
  with_reducible refine args_nil ?_
  (refine x_range3 (by with_reducible assumption) ?_; intro _ _ _ _)
  refine r_down (dg x).length (by walk_at "m_n") (by assumption) (by walk_at "m_mem") (by walk_at "m_n") hh (σ := List Int × Int × Tok) (fun c => some (D, .kI c.1)) (fun c => [("q", .ref D), ("r", .int c.2.1 c.2.2), ("a", .ref a), ("d", .int (d : Int) u)]) (fun _ => []) [(a, .kI (dg x), false)]
    (fun p c => DivJ (dg x) c.1 d c.2.1 p) (_, 0, _) rfl (by walk_at "m_Sub") (by walk_at "m_sub") (fun _ _ q => nomatch q) (DivJ.start _ (by walk_at "m_n")) ?_ ?_
  · rintro j ⟨q, r, ur⟩ u' h₅ t₅ o I E' hj hJ F₅
    dsimp only [List.nil_append, List.cons_append] at hJ F₅ ⊢
    have hl := hJ.len
    refine execs_asg ?_
    with_reducible refine wpAny_BinOp ?_
    with_reducible refine wpAny_BinOp ?_
    refine r_loc (by with_reducible assumption) (by rfl) ?_
    (refine r_base (by with_reducible assumption) ?_; intro _)
    ((with_reducible refine x_mul (by first | exact IntMulOk.of_right (intBits_le_64 (by walk_at "m_n") (by walk_at "m_n")) | exact IntMulOk.of_left (intBits_le_64 (by walk_at "m_n") (by walk_at "m_n")) | exact mul_fits2 (by walk_at "m_n") (by walk_at "m_n") (by walk_at "m_n") (by walk_at "m_n")) ?_); intro _ _)
    refine Subscript_ ?_
    refine r_loc (by with_reducible assumption) (by rfl) ?_
    refine r_loc (by with_reducible assumption) (by rfl) ?_
    (refine x_item (by walk_at "m_has") (by walk_at "m_n") (by walk_at "m_n") (by walk_at "m_n") ?_; intro _)
    ((with_reducible refine x_add ?_); intro _ _)
    (refine r_store (by with_reducible assumption) ?_; intro _ _ _)
    with_reducible refine wpAny_execs_cons ?_
    refine wpAny_Assign_Subscript ?_
    with_reducible refine wpAny_BinOp ?_
    refine r_loc (by with_reducible assumption) (by rfl) ?_
    refine r_loc (by with_reducible assumption) (by rfl) ?_
    ((with_reducible refine x_div (by walk_at "m_n") (by walk_at "m_n") ?_); intro _ _)
    refine r_loc (by with_reducible assumption) (by rfl) ?_
    refine r_loc (by with_reducible assumption) (by rfl) ?_
    (refine x_setItem (by with_reducible assumption) (by walk_at "m_has") (by walk_at "m_n") (by walk_at "m_n") (by walk_at "m_n") ?_; intro _ _)
    refine execs_asg ?_
    with_reducible refine wpAny_BinOp ?_
    refine r_loc (by with_reducible assumption) (by rfl) ?_
    refine r_loc (by with_reducible assumption) (by rfl) ?_
    ((with_reducible refine x_mod (by walk_at "m_n") ?_); intro _ _)
    (refine r_store (by with_reducible assumption) ?_; intro _ _ _)
    with_reducible refine wpAny_execs_nil ?_
    refine turn_next (_, _, _) (by assumption) rfl (by walk_at "m_Sub") (by walk_at "m_sub") ?_
    skip
    simp only [Int.toNat_natCast]
    exact hJ.step (ok_dg x) hj rfl
  · rintro ⟨q, r, ur⟩ h₅ t₅ hJ F₅
    dsimp only [List.nil_append, List.cons_append] at hJ F₅ ⊢
    have hl := hJ.len
    with_reducible refine wpAny_execs_cons ?_
    with_reducible refine wpAny_Return_some ?_
    with_reducible refine Tuple_ ?_
    refine args_cons ?_
    (refine r_callL1 (by with_reducible assumption) (by rfl) (by rfl) (by rfl) ?_; intro _ _)
    skip
    refine ⟨Fm.keep (by with_reducible assumption), trimmed_c (by with_reducible assumption) (by rfl) (by assumption) (by walk_at "m_has") (by walk_at "m_n") hJ.ok hA.deeper ?_⟩
    intro r₆ h₆ t₆ F₆
    rw [hJ.fin.1, Int.toNat_natCast] at F₆
    refine args_loc (by with_reducible assumption) (by rfl) ?_
    with_reducible refine args_nil ?_
    (refine x_newTuple (by with_reducible assumption) (by simp) ?_; intro _ _ _)
    rename_i r₇ h₇ F₇
    rw [hJ.fin.2] at F₇
    exact k r₇ r₆ _ _ _ (F.back2 F₇ (by walk_at "m_mem") (by walk_at "m_mem"))
end
section
variable {mg mb : Str → Option Value} {prog : Program} {w : World} {A : Around} {E : Value → Shared → Prop} {b : Shared} {h₀ h : Heap} {L a a' f : Addr} {dl : Option (Addr × Kd)} {t : Nat}
  {m : List (Str × Value)} {led : List Ent} {Q : Value → Shared → Prop} {nm : Str} {ps : Arguments} {bd : List Stmt} {sc : Scope}

theorem trial_digit_c {x y : Nat} (F : Fm (Wx mg mb) h₀ L dl h m led) (hd : defAt pw 14 = some (nm, ps, bd, sc)) (hf : FnRef h₀ f (nm, ps, bd, sc)) (hx : Is h a (.kI (dg x))) (hy : Is h a' (.kI (dg y)))
    (hlt : x < 10000 * y) (hny : (dg y).length ≤ 4000) (hA : Rm 2 A)
    (k : ∀ u h' t', Fm (Wx mg mb) h₀ L dl h' m led → Q (.int ((x / y : Nat) : Int) u) (St b h' t')) :
    wpAny (model prog w) A (call (.ref f) [.ref a, .ref a']) Q E (St b h t) := by
  cases hd
  refine r_enter F hf (hA.le (by walk_at "m_n")) [("rem", .ref a), ("b", .ref a')] [(a, .kI (dg x), false), (a', .kI (dg y), false)] ⟨⟨hx, rfl⟩, ⟨hy, rfl⟩, trivial⟩ ?_
  intro L' h₁ t₁ code F₁
  have hnx := len_mul hlt
  refine execs_asg ?_
  ((with_reducible refine x_int ?_); intro _ _)
  (refine r_store (by with_reducible assumption) ?_; intro _ _ _)
  refine execs_asg ?_
  with_reducible refine wpAny_BinOp ?_
  (refine r_base (by with_reducible assumption) ?_; intro _)
  ((with_reducible refine x_int ?_); intro _ _)
  ((with_reducible refine x_sub ?_); intro _ _)
  (refine r_store (by with_reducible assumption) ?_; intro _ _ _)
  with_reducible refine wpAny_execs_cons ?_
  refine r_while (σ := (Int × Tok) × Int × Tok) (fun _ => none) (fun c => [("low", .int c.1.1 c.1.2), ("high", .int c.2.1 c.2.2), ("rem", .ref a), ("b", .ref a')]) (fun _ => [(a, .kI (dg x), false), (a', .kI (dg y), false)])
    (fun c => 0 ≤ c.1.1 ∧ c.1.1 ≤ c.2.1 ∧ c.2.1 ≤ 9999 ∧ y * c.1.1.toNat ≤ x ∧ x < y * (c.2.1.toNat + 1)) (fun c => (c.2.1 - c.1.1).toNat) ((0, _), 10000 - 1, _) (Fm.wk (by assumption) (by walk_at "m_Sub") (by walk_at "m_sub")) ⟨by simp, by simp, by simp, by simp, by rw [Nat.mul_comm]; exact hlt⟩ ?_
  rintro ⟨⟨low, ul⟩, high, uh⟩ h₂ t₂ E' ⟨c0, c1, c2, c3, c4⟩ F₂
  dsimp only at c0 c1 c2 c3 c4 F₂ ⊢
  refine wpAny_isTrue_Compare1 ?_
  refine r_loc (by with_reducible assumption) (by rfl) ?_
  refine r_loc (by with_reducible assumption) (by rfl) ?_
  with_reducible refine P.lt_int ?_
  with_reducible refine wpAny_truthy_bool ?_
  refine ite_dec (fun q1 => ?_) (fun q1 => ?_)
  · refine execs_asg ?_
    with_reducible refine wpAny_BinOp ?_
    with_reducible refine wpAny_BinOp ?_
    with_reducible refine wpAny_BinOp ?_
    refine r_loc (by with_reducible assumption) (by rfl) ?_
    refine r_loc (by with_reducible assumption) (by rfl) ?_
    ((with_reducible refine x_add ?_); intro _ _)
    ((with_reducible refine x_int ?_); intro _ _)
    ((with_reducible refine x_add ?_); intro _ _)
    ((with_reducible refine x_int ?_); intro _ _)
    ((with_reducible refine x_div (by walk_at "m_n") (by walk_at "m_n") ?_); intro _ _)
    (refine r_store (by with_reducible assumption) ?_; intro _ _ _)
    refine execs_ifC ?_
    (refine r_callN (by with_reducible assumption) (by rfl) (by rfl) ?_; intro _ _)
    refine args_cons ?_
    (refine r_callL2 (by with_reducible assumption) (by rfl) (by rfl) (by rfl) (by rfl) ?_; intro _ _)
    skip
    have hmid : ∃ mid : Nat, (low + high + 1) / 2 = (mid : Int) ∧ mid < 10000 := ⟨((low + high + 1) / 2).toNat, by omega, by omega⟩
    obtain ⟨mid, em, hm⟩ := hmid
    have hy0 : 0 < y := by rcases Nat.eq_zero_or_pos y with z | z; · subst z; walk_at "m_n"
                           · exact z
    have hlm : (dg (y * mid)).length ≤ (dg y).length + 1 := len_mul (by rw [Nat.mul_comm]; exact Nat.mul_lt_mul_of_pos_right hm hy0)
    refine ⟨Fm.keep (by with_reducible assumption), mul_small_c (by with_reducible assumption) (by rfl) (by assumption) (by walk_at "m_has") em (by walk_at "m_n") hm hA.deeper ?_⟩
    intro r₃ h₃ t₃ F₃
    refine args_loc (by with_reducible assumption) (by rfl) ?_
    with_reducible refine args_nil ?_
    skip
    refine ⟨Fm.keep (by with_reducible assumption), compare_c (by with_reducible assumption) (by rfl) (by assumption) (by walk_at "m_has") (by walk_at "m_has") (by walk_at "m_n") (by walk_at "m_n") hA.deeper ?_⟩
    intro u₄ h₄ t₄ F₄
    ((with_reducible refine x_int ?_); intro _ _)
    with_reducible refine P.le_int ?_
    with_reducible refine wpAny_truthy_bool ?_
    refine ite_dec (fun q2 => ?_) (fun q2 => ?_)
    · refine execs_asg ?_
      refine r_loc (by with_reducible assumption) (by rfl) ?_
      (refine r_store (by with_reducible assumption) ?_; intro _ _ _)
      with_reducible refine wpAny_execs_nil ?_
      with_reducible refine wpAny_execs_nil ?_
      have hle : y * mid ≤ x := by unfold cmpI at q2; split at q2 <;> (try split at q2) <;> omega
      refine turn_next ((_, _), _, _) (by assumption) rfl (by walk_at "m_Sub") (by walk_at "m_sub") ⟨⟨by dsimp only; omega, by dsimp only; omega, by dsimp only; omega, ?_, c4⟩, by dsimp only; omega⟩
      skip
      rw [em, Int.toNat_natCast]; exact hle
    · refine execs_asg ?_
      with_reducible refine wpAny_BinOp ?_
      refine r_loc (by with_reducible assumption) (by rfl) ?_
      ((with_reducible refine x_int ?_); intro _ _)
      ((with_reducible refine x_sub ?_); intro _ _)
      (refine r_store (by with_reducible assumption) ?_; intro _ _ _)
      with_reducible refine wpAny_execs_nil ?_
      with_reducible refine wpAny_execs_nil ?_
      have hgt : x < y * mid := by unfold cmpI at q2; split at q2 <;> (try split at q2) <;> omega
      refine turn_next ((_, _), _, _) (by assumption) rfl (by walk_at "m_Sub") (by walk_at "m_sub") ⟨⟨by dsimp only; omega, by dsimp only; omega, by dsimp only; omega, c3, ?_⟩, by dsimp only; omega⟩
      skip
      rw [em, show ((mid : Int) - 1).toNat + 1 = mid by walk_at "m_n"]; exact hgt
  · with_reducible refine wpAny_execs_cons ?_
    with_reducible refine wpAny_Return_some ?_
    refine r_loc (by with_reducible assumption) (by rfl) ?_
    skip
    have e : low = ((x / y : Nat) : Int) := by
      rw [Nat.div_eq_of_lt_le (k := low.toNat) (by rw [Nat.mul_comm]; exact c3) (by rw [Nat.mul_comm, show low.toNat + 1 = high.toNat + 1 by walk_at "m_n"]; exact c4)]; walk_at "m_n"
    subst e
    exact k _ _ _ (F.back0 F₂)
end
section
variable {mg mb : Str → Option Value} {prog : Program} {w : World} {A : Around} {E : Value → Shared → Prop} {b : Shared} {h₀ h : Heap} {L a a' f : Addr} {dl : Option (Addr × Kd)} {t : Nat}
  {m : List (Str × Value)} {led : List Ent} {Q : Value → Shared → Prop} {nm : Str} {ps : Arguments} {bd : List Stmt} {sc : Scope}

theorem divmod_long_c {x y : Nat} (F : Fm (Wx mg mb) h₀ L dl h m led) (hd : defAt pw 15 = some (nm, ps, bd, sc)) (hf : FnRef h₀ f (nm, ps, bd, sc)) (hx : Is h a (.kI (dg x))) (hy : Is h a' (.kI (dg y)))
    (hy0 : 0 < y) (hnx : (dg x).length ≤ 3000) (hny : (dg y).length ≤ 3000) (hA : Rm 3 A)
    (k : ∀ r q q' h' t', Fm (Wx mg mb) h₀ L dl h' m ((r, .kT [.ref q, .ref q'], true) :: (q, .kP (dg (x / y)), true) :: (q', .kP (dg (x % y)), true) :: led) → Q (.ref r) (St b h' t')) :
    wpAny (model prog w) A (call (.ref f) [.ref a, .ref a']) Q E (St b h t) := by
  cases hd
  refine r_enter F hf (hA.le (by walk_at "m_n")) [("a", .ref a), ("b", .ref a')] [(a, .kI (dg x), false), (a', .kI (dg y), false)] ⟨⟨hx, rfl⟩, ⟨hy, rfl⟩, trivial⟩ ?_
  intro L' h₁ t₁ code F₁
  have hh := hA.hd
  have hly : (dg y).length ≠ 0 := fun z => dg_ne (by walk_at "m_n") (List.length_eq_zero_iff.mp z)
  refine execs_ifC ?_
  (refine r_len (by with_reducible assumption) (by rfl) (by walk_at "m_has") (by walk_at "m_n") ?_ (by walk_at "m_mem"); intro _ _)
  ((with_reducible refine x_int ?_); intro _ _)
  with_reducible refine P.eq_int ?_
  with_reducible refine wpAny_truthy_bool ?_
  refine ite_beq (fun q1 => absurd (by walk_at "m_n") hly) (fun q1 => ?_)
  with_reducible refine wpAny_execs_nil ?_
  refine execs_asg ?_
  with_reducible refine wpAny_BinOp ?_
  with_reducible refine List_ ?_
  refine args_cons ?_
  ((with_reducible refine x_int ?_); intro _ _)
  with_reducible refine args_nil ?_
  skip
  refine x_newList (by assumption) (by simp) ?_
  intro r₂ h₂ F₂
  (refine r_len (by with_reducible assumption) (by rfl) (by walk_at "m_has") (by walk_at "m_n") ?_ (by walk_at "m_mem"); intro _ _)
  refine x_repD (by assumption) (by walk_at "m_has") (by walk_at "m_n") (by walk_at "m_n") ?_
  intro D h₃ F₃
  rw [Int.toNat_natCast] at F₃
  replace F₃ := F₃.alsoD Is.pl_ints
  (refine r_store (by with_reducible assumption) ?_; intro _ _ _)
  refine execs_asg ?_
  with_reducible refine List_ ?_
  with_reducible refine args_nil ?_
  skip
  refine x_newList (by assumption) (by simp) ?_
  intro r₄ h₄ F₄
  replace F₄ := F₄.also (.head _) (K' := .kP (dg 0)) (fun _ i => by rw [dg_zero]; exact Is.ex_pl i .nil)
  (refine r_store (by with_reducible assumption) ?_; intro _ _ _)
  with_reducible refine wpAny_execs_cons ?_
  refine wpAny_For ?_
  refine r_tcall bb_range (by with_reducible assumption) (by walk_at "m_mem") ?_
  refine args_cons ?_
  with_reducible refine wpAny_BinOp ?_
  (refine r_len (by with_reducible assumption) (by rfl) (by walk_at "m_has") (by walk_at "m_n") ?_ (by walk_at "m_mem"); intro _ _)
  ((with_reducible refine x_int ?_); intro _ _)
  ((with_reducible refine x_sub ?_); intro _ _)
  refine args_cons ?_
  with_reducible refine wpAny_UnaryOp ?_
  ((with_reducible refine x_int ?_); intro _ _)
  ((with_reducible refine x_neg ?_); intro _ _)
  refine args_cons ?_
  with_reducible refine wpAny_UnaryOp ?_
  ((with_reducible refine x_int ?_); intro _ _)
  ((with_reducible refine x_neg ?_); intro _ _)
  with_reducible refine args_nil ?_
  (refine x_range3 (by with_reducible assumption) ?_; intro _ _ _ _)
  refine r_down (dg x).length (by walk_at "m_n") (by assumption) (by walk_at "m_mem") (by walk_at "m_n") hh (σ := List Int × Nat × Addr) (fun c => some (D, .kI c.1)) (fun c => [("q", .ref D), ("r", .ref c.2.2), ("a", .ref a), ("b", .ref a')]) (fun c => [(c.2.2, .kP (dg c.2.1), true)]) [(a, .kI (dg x), false), (a', .kI (dg y), false)]
    (fun p c => DivJ (dg x) c.1 y c.2.1 p) (_, 0, r₄) rfl (by walk_at "m_Sub") (by walk_at "m_sub") (fun c q hq => by rw [List.mem_singleton.mp hq]; rfl) (DivJ.start _ (by walk_at "m_n")) ?_ ?_
  · rintro j ⟨q, R, ra⟩ u' h₅ t₅ o I E' hj hJ F₅
    dsimp only [List.nil_append, List.cons_append] at hJ F₅ ⊢
    have hl := hJ.len
    have hxj := ok_getD (ok_dg x) j
    have hR := hJ.r1
    refine execs_asg ?_
    (refine r_callN (by with_reducible assumption) (by rfl) (by rfl) ?_; intro _ _)
    refine args_cons ?_
    with_reducible refine wpAny_BinOp ?_
    with_reducible refine List_ ?_
    refine args_cons ?_
    refine Subscript_ ?_
    refine r_loc (by with_reducible assumption) (by rfl) ?_
    refine r_loc (by with_reducible assumption) (by rfl) ?_
    (refine x_item (by walk_at "m_has") (by walk_at "m_n") (by walk_at "m_n") (by walk_at "m_n") ?_; intro _)
    with_reducible refine args_nil ?_
    skip
    refine x_newList (by assumption) (by simp) ?_
    intro r₆ h₆ F₆
    replace F₆ := F₆.also (.head _) (K' := .kP [(dg x).getD j 0]) (fun _ i => Is.ex_pl i (.cons _ _ .nil))
    have hnR : (dg R).length ≤ (dg y).length := len_mono (by walk_at "m_n")
    refine r_loc (by with_reducible assumption) (by rfl) ?_
    refine x_cat (by assumption) (by walk_at "m_has") (by walk_at "m_has") (by simp only [List.length_cons, List.length_nil]; walk_at "m_n") ?_
    intro r₇ h₇ F₇
    with_reducible refine args_nil ?_
    skip
    have ok7 : Ok ([(dg x).getD j 0] ++ dg R) := ok_append.mpr ⟨ok_cons.mpr ⟨hxj, ok_nil⟩, ok_dg R⟩
    refine ⟨Fm.keep (by with_reducible assumption), trimmed_c (by with_reducible assumption) (by rfl) (by assumption) (by walk_at "m_has") (by simp only [List.length_append, List.length_cons, List.length_nil]; walk_at "m_n") ok7 (hA.deeper.le (by walk_at "m_n")) ?_⟩
    intro r₈ h₈ t₈ F₈
    obtain ⟨R', eR⟩ : ∃ R' : Nat, (R' : Int) = R * 10000 + (dg x).getD j 0 := ⟨(R * 10000 + (dg x).getD j 0).toNat, by omega⟩
    rw [show (vl ([(dg x).getD j 0] ++ dg R)).toNat = R' by rw [List.cons_append, List.nil_append, vl, vl_dg]; omega] at F₈
    have hlt : R' < 10000 * y := by walk_at "m_n"
    have hn' := len_mul hlt
    (refine r_store (by with_reducible assumption) ?_; intro _ _ _)
    refine execs_asg ?_
    (refine r_callL2 (by with_reducible assumption) (by rfl) (by rfl) (by rfl) (by rfl) ?_; intro _ _)
    skip
    refine ⟨Fm.keep (by with_reducible assumption), trial_digit_c (by with_reducible assumption) (by rfl) (by assumption) (by walk_at "m_has") (by walk_at "m_has") hlt (by walk_at "m_n") (hA.deeper.le (by walk_at "m_n")) ?_⟩
    intro u₉ h₉ t₉ F₉
    have hq : R' / y < 10000 := Nat.div_lt_of_lt_mul (by rw [Nat.mul_comm]; exact hlt)
    have hmq : y * (R' / y) ≤ R' := Nat.mul_div_le R' y
    (refine r_store (by with_reducible assumption) ?_; intro _ _ _)
    with_reducible refine wpAny_execs_cons ?_
    refine wpAny_Assign_Subscript ?_
    refine r_loc (by with_reducible assumption) (by rfl) ?_
    refine r_loc (by with_reducible assumption) (by rfl) ?_
    refine r_loc (by with_reducible assumption) (by rfl) ?_
    (refine x_setItem (by with_reducible assumption) (by walk_at "m_has") (by walk_at "m_n") (by walk_at "m_n") (by walk_at "m_n") ?_; intro _ _)
    refine execs_asg ?_
    (refine r_callN (by with_reducible assumption) (by rfl) (by rfl) ?_; intro _ _)
    refine args_loc (by with_reducible assumption) (by rfl) ?_
    refine args_cons ?_
    (refine r_callL2 (by with_reducible assumption) (by rfl) (by rfl) (by rfl) (by rfl) ?_; intro _ _)
    skip
    refine ⟨Fm.keep (by with_reducible assumption), mul_small_c (by with_reducible assumption) (by rfl) (by assumption) (by walk_at "m_has") rfl (by walk_at "m_n") hq (hA.deeper.le (by walk_at "m_n")) ?_⟩
    intro r₁₀ h₁₀ t₁₀ F₁₀
    with_reducible refine args_nil ?_
    skip
    refine ⟨Fm.keep (by with_reducible assumption), sub_c (by with_reducible assumption) (by rfl) (by assumption) (by walk_at "m_has") (by walk_at "m_has") (by walk_at "m_n") hmq (hA.deeper.le (by walk_at "m_n")) ?_⟩
    intro r₁₁ h₁₁ t₁₁ F₁₁
    rw [show R' - y * (R' / y) = R' % y by have := Nat.div_add_mod R' y; omega] at F₁₁
    (refine r_store (by with_reducible assumption) ?_; intro _ _ _)
    with_reducible refine wpAny_execs_nil ?_
    refine turn_next (_, R' % y, r₁₁) (by assumption) rfl (by walk_at "m_Sub") (by walk_at "m_sub") ?_
    skip
    simp only [Int.toNat_natCast]
    have st := hJ.step (ok_dg x) hj rfl
    rw [← eR] at st
    exact st
  · rintro ⟨q, R, ra⟩ h₅ t₅ hJ F₅
    dsimp only [List.nil_append, List.cons_append] at hJ F₅ ⊢
    have hl := hJ.len
    with_reducible refine wpAny_execs_cons ?_
    with_reducible refine wpAny_Return_some ?_
    with_reducible refine Tuple_ ?_
    refine args_cons ?_
    (refine r_callL1 (by with_reducible assumption) (by rfl) (by rfl) (by rfl) ?_; intro _ _)
    skip
    refine ⟨Fm.keep (by with_reducible assumption), trimmed_c (by with_reducible assumption) (by rfl) (by assumption) (by walk_at "m_has") (by walk_at "m_n") hJ.ok (hA.deeper.le (by walk_at "m_n")) ?_⟩
    intro r₆ h₆ t₆ F₆
    rw [hJ.fin.1, Int.toNat_natCast] at F₆
    refine args_loc (by with_reducible assumption) (by rfl) ?_
    with_reducible refine args_nil ?_
    (refine x_newTuple (by with_reducible assumption) (by simp) ?_; intro _ _ _)
    rename_i r₇ h₇ F₇
    have e := hJ.fin.2
    obtain rfl : R = x % y := by walk_at "m_n"
    exact k r₇ r₆ ra _ _ (F.back3 F₇ (by walk_at "m_mem") (by walk_at "m_mem") (by walk_at "m_mem"))
end
section
variable {mg mb : Str → Option Value} {prog : Program} {w : World} {A : Around} {E : Value → Shared → Prop} {b : Shared} {h₀ h : Heap} {L a a' f : Addr} {dl : Option (Addr × Kd)} {t : Nat}
  {m : List (Str × Value)} {led : List Ent} {Q : Value → Shared → Prop} {nm : Str} {ps : Arguments} {bd : List Stmt} {sc : Scope}

theorem pow_nat_c {x : Nat} {e₀ : Int} {u : Tok} (F : Fm (Wx mg mb) h₀ L dl h m led) (hd : defAt pw 17 = some (nm, ps, bd, sc)) (hf : FnRef h₀ f (nm, ps, bd, sc)) (hx : Is h a (.kI (dg x))) (he0 : 0 ≤ e₀) (he1 : e₀ ≤ 3)
    (hnx : (dg x).length ≤ 400) (hA : Rm 3 A)
    (k : ∀ r h' t', Fm (Wx mg mb) h₀ L dl h' m ((r, .kP (dg (x ^ e₀.toNat)), true) :: led) → Q (.ref r) (St b h' t')) :
    wpAny (model prog w) A (call (.ref f) [.ref a, .int e₀ u]) Q E (St b h t) := by
  cases hd
  have hx' : Is h a (.kI (dg (x ^ 1))) := by rwa [Nat.pow_one]
  refine r_enter F hf (hA.le (by walk_at "m_n")) [("a", .ref a), ("e", .int e₀ u)] [(a, .kI (dg (x ^ 1)), false)] ⟨⟨hx', rfl⟩, trivial⟩ ?_
  intro L' h₁ t₁ code F₁
  have hlen : ∀ j : Nat, j ≤ 3 → (dg (x ^ j)).length ≤ 2000 := fun j hj => by
    have h1 := len_pow x j
    have h2 := Nat.mul_le_mul_right (dg x).length hj
    omega
  refine execs_asg ?_
  with_reducible refine List_ ?_
  refine args_cons ?_
  ((with_reducible refine x_int ?_); intro _ _)
  with_reducible refine args_nil ?_
  skip
  refine x_newList (by assumption) (by simp) ?_
  intro r₂ h₂ F₂
  have h1 : ([1] : List Int) = dg (x ^ 0) := by rw [Nat.pow_zero, dg_pos (by decide)]; simp [dg_zero]
  replace F₂ := F₂.also (.head _) (K' := .kP (dg (x ^ 0))) (fun _ i => by rw [← h1]; exact Is.ex_pl i (.cons _ _ .nil))
  (refine r_store (by with_reducible assumption) ?_; intro _ _ _)
  refine execs_asg ?_
  refine r_loc (by with_reducible assumption) (by rfl) ?_
  (refine r_store (by with_reducible assumption) ?_; intro _ _ _)
  with_reducible refine wpAny_execs_cons ?_
  refine r_while (σ := (Nat × Addr) × (Nat × Addr × Bool) × Int × Tok) (fun _ => none) (fun c => [("power", .ref c.1.2), ("square", .ref c.2.1.2.1), ("e", .int c.2.2.1 c.2.2.2)]) (fun c => [(c.1.2, .kP (dg (x ^ c.1.1)), true), (c.2.1.2.1, .kI (dg (x ^ c.2.1.1)), c.2.1.2.2)])
    (fun c => 0 ≤ c.2.2.1 ∧ 1 ≤ c.2.1.1 ∧ c.2.1.1 ≤ 3 ∧ (c.1.1 : Int) + (c.2.1.1 : Int) * c.2.2.1 = e₀) (fun c => c.2.2.1.toNat) ((0, r₂), (1, a, false), e₀, u) (Fm.wk (by assumption) (by walk_at "m_Sub") (by walk_at "m_sub")) ⟨he0, by simp, by simp, by simp⟩ ?_
  rintro ⟨⟨jp, pa⟩, ⟨js, sa, fs⟩, e, ue⟩ h₃ t₃ E' ⟨c0, c1, c2, c3⟩ F₃
  dsimp only at c0 c1 c2 c3 F₃ ⊢
  have hse : 0 ≤ (js : Int) * e := Int.mul_nonneg (by walk_at "m_n") c0
  have hjp : jp ≤ 3 := by walk_at "m_n"
  have hlp := hlen jp hjp
  have hls := hlen js c2
  refine wpAny_isTrue_Compare1 ?_
  refine r_loc (by with_reducible assumption) (by rfl) ?_
  ((with_reducible refine x_int ?_); intro _ _)
  with_reducible refine P.gt_int ?_
  with_reducible refine wpAny_truthy_bool ?_
  refine ite_dec (fun q1 => ?_) (fun q1 => ?_)
  · have hjs : js = 1 ∨ js = 2 ∨ js = 3 := by walk_at "m_n"
    refine execs_ifC ?_
    with_reducible refine wpAny_BinOp ?_
    refine r_loc (by with_reducible assumption) (by rfl) ?_
    ((with_reducible refine x_int ?_); intro _ _)
    ((with_reducible refine x_mod (by walk_at "m_n") ?_); intro _ _)
    ((with_reducible refine x_int ?_); intro _ _)
    with_reducible refine P.eq_int ?_
    with_reducible refine wpAny_truthy_bool ?_
    refine ite_beq (fun q2 => ?_) (fun q2 => ?_)
    · refine execs_asg ?_
      (refine r_callL2 (by with_reducible assumption) (by rfl) (by rfl) (by rfl) (by rfl) ?_; intro _ _)
      skip
      refine ⟨Fm.keep (by with_reducible assumption), mul_school_c (by with_reducible assumption) (by rfl) (by assumption) (by walk_at "m_has") (by walk_at "m_has") (by walk_at "m_n") (by walk_at "m_n") (hA.deeper.le (by walk_at "m_n")) ?_⟩
      intro r₄ h₄ t₄ F₄
      rw [← Nat.pow_add] at F₄
      (refine r_store (by with_reducible assumption) ?_; intro _ _ _)
      with_reducible refine wpAny_execs_nil ?_
      refine execs_asg ?_
      with_reducible refine wpAny_BinOp ?_
      refine r_loc (by with_reducible assumption) (by rfl) ?_
      ((with_reducible refine x_int ?_); intro _ _)
      ((with_reducible refine x_div (by walk_at "m_n") (by walk_at "m_n") ?_); intro _ _)
      (refine r_store (by with_reducible assumption) ?_; intro _ _ _)
      refine execs_ifC ?_
      refine r_loc (by with_reducible assumption) (by rfl) ?_
      ((with_reducible refine x_int ?_); intro _ _)
      with_reducible refine P.gt_int ?_
      with_reducible refine wpAny_truthy_bool ?_
      refine ite_dec (fun q3 => ?_) (fun q3 => ?_)
      · refine execs_asg ?_
        (refine r_callL2 (by with_reducible assumption) (by rfl) (by rfl) (by rfl) (by rfl) ?_; intro _ _)
        skip
        refine ⟨Fm.keep (by with_reducible assumption), mul_school_c (by with_reducible assumption) (by rfl) (by assumption) (by walk_at "m_has") (by walk_at "m_has") (by walk_at "m_n") (by walk_at "m_n") (hA.deeper.le (by walk_at "m_n")) ?_⟩
        intro r₅ h₅ t₅ F₅
        rw [← Nat.pow_add] at F₅
        replace F₅ := F₅.also (.head _) (K' := .kI (dg (x ^ (js + js)))) (fun _ i => i.pl_ints)
        (refine r_store (by with_reducible assumption) ?_; intro _ _ _)
        with_reducible refine wpAny_execs_nil ?_
        with_reducible refine wpAny_execs_nil ?_
        refine turn_next ((jp + js, r₄), (js + js, r₅, true), _, _) (by assumption) rfl (by walk_at "m_Sub") (by walk_at "m_sub") ⟨⟨?_, ?_, ?_, ?_⟩, ?_⟩ <;> (dsimp only) <;> (try omega)
        · rcases hjs with rfl | rfl | rfl <;> omega
        · rcases hjs with rfl | rfl | rfl <;> omega
      · with_reducible refine wpAny_execs_nil ?_
        with_reducible refine wpAny_execs_nil ?_
        refine turn_next ((jp + js, r₄), (js, sa, fs), _, _) (by assumption) rfl (by walk_at "m_Sub") (by walk_at "m_sub") ⟨⟨?_, ?_, ?_, ?_⟩, ?_⟩ <;> (dsimp only) <;> (try omega)
        rcases hjs with rfl | rfl | rfl <;> omega
    · with_reducible refine wpAny_execs_nil ?_
      refine execs_asg ?_
      with_reducible refine wpAny_BinOp ?_
      refine r_loc (by with_reducible assumption) (by rfl) ?_
      ((with_reducible refine x_int ?_); intro _ _)
      ((with_reducible refine x_div (by walk_at "m_n") (by walk_at "m_n") ?_); intro _ _)
      (refine r_store (by with_reducible assumption) ?_; intro _ _ _)
      refine execs_ifC ?_
      refine r_loc (by with_reducible assumption) (by rfl) ?_
      ((with_reducible refine x_int ?_); intro _ _)
      with_reducible refine P.gt_int ?_
      with_reducible refine wpAny_truthy_bool ?_
      refine ite_dec (fun q3 => ?_) (fun q3 => ?_)
      · refine execs_asg ?_
        (refine r_callL2 (by with_reducible assumption) (by rfl) (by rfl) (by rfl) (by rfl) ?_; intro _ _)
        skip
        refine ⟨Fm.keep (by with_reducible assumption), mul_school_c (by with_reducible assumption) (by rfl) (by assumption) (by walk_at "m_has") (by walk_at "m_has") (by walk_at "m_n") (by walk_at "m_n") (hA.deeper.le (by walk_at "m_n")) ?_⟩
        intro r₅ h₅ t₅ F₅
        rw [← Nat.pow_add] at F₅
        replace F₅ := F₅.also (.head _) (K' := .kI (dg (x ^ (js + js)))) (fun _ i => i.pl_ints)
        (refine r_store (by with_reducible assumption) ?_; intro _ _ _)
        with_reducible refine wpAny_execs_nil ?_
        with_reducible refine wpAny_execs_nil ?_
        refine turn_next ((jp, pa), (js + js, r₅, true), _, _) (by assumption) rfl (by walk_at "m_Sub") (by walk_at "m_sub") ⟨⟨?_, ?_, ?_, ?_⟩, ?_⟩ <;> (dsimp only) <;> (try omega)
        · rcases hjs with rfl | rfl | rfl <;> omega
        · rcases hjs with rfl | rfl | rfl <;> omega
      · exfalso; walk_at "m_n"
  · with_reducible refine wpAny_execs_cons ?_
    with_reducible refine wpAny_Return_some ?_
    refine r_loc (by with_reducible assumption) (by rfl) ?_
    skip
    obtain rfl : e = 0 := by walk_at "m_n"
    rw [Int.mul_zero, Int.add_zero] at c3
    obtain rfl : jp = e₀.toNat := by walk_at "m_n"
    exact k pa _ _ (F.back F₃ (by walk_at "m_mem"))
end
section
variable {mg mb : Str → Option Value} {prog : Program} {w : World} {A : Around} {E : Value → Shared → Prop} {b : Shared} {h₀ h : Heap} {L a a' f : Addr} {dl : Option (Addr × Kd)} {t : Nat}
  {m : List (Str × Value)} {led : List Ent} {Q : Value → Shared → Prop} {nm : Str} {ps : Arguments} {bd : List Stmt} {sc : Scope}

theorem sub_r {x y : Nat} {base : Heap} {l : List Env} (F : Fm (Wx mg mb) h₀ L dl h m led) (hd : defAt pw 8 = some (nm, ps, bd, sc)) (hf : FnRef h₀ f (nm, ps, bd, sc)) (hx : Is h a (.kI (dg x))) (hy : Is h a' (.kI (dg y)))
    (hny : (dg y).length ≤ 5000) (hlt : x < y) (hA : Rm 2 A) (hAf : A.frames = some l) (hb : base.StaysIn h) (hfun : h.FunFrames base l)
    (k : ∀ e a0 h' t', Heap.FlyingW base l e (.type "ValueError") a0 h' → h.UpToSlots h' → E (.ref e) (St b h' t')) :
    wpAny (model prog w) A (call (.ref f) [.ref a, .ref a']) Q E (St b h t) := by
  cases hd
  refine r_enterE F hf (hA.le (by walk_at "m_n")) [("a", .ref a), ("b", .ref a')] [(a, .kI (dg x), false), (a', .kI (dg y), false)] ⟨⟨hx, rfl⟩, ⟨hy, rfl⟩, trivial⟩ ?_
  intro L' h₁ t₁ code F₁
  have hh := hA.hd
  have hnx := len_mono (Nat.le_of_lt hlt)
  refine execs_ifC ?_
  (refine r_callL2 (by with_reducible assumption) (by rfl) (by rfl) (by rfl) (by rfl) ?_; intro _ _)
  skip
  refine ⟨Fm.keep (by with_reducible assumption), compare_c (by with_reducible assumption) (by rfl) (by assumption) (by walk_at "m_has") (by walk_at "m_has") (by walk_at "m_n") (by walk_at "m_n") hA.deeper ?_⟩
  intro u' h₂ t₂ F₂
  have hc : cmpI x y < 0 := by unfold cmpI; rw [if_pos hlt]; decide
  ((with_reducible refine x_int ?_); intro _ _)
  with_reducible refine P.lt_int ?_
  with_reducible refine wpAny_truthy_bool ?_
  refine ite_dec (fun q1 => ?_) (fun q1 => absurd hc q1)
  with_reducible refine wpAny_execs_cons ?_
  exact x_raise PySem.F.excCall_ValueError PySem.F.excRaise_ValueError Boot.«ValueError» F₂ (by walk_at "m_mem") hh hAf hb hfun k

theorem divmod_long_r {x : Nat} {base : Heap} {l : List Env} (F : Fm (Wx mg mb) h₀ L dl h m led) (hd : defAt pw 15 = some (nm, ps, bd, sc)) (hf : FnRef h₀ f (nm, ps, bd, sc)) (hx : Is h a (.kI (dg x))) (hy : Is h a' (.kI (dg 0)))
    (hA : Rm 2 A) (hAf : A.frames = some l) (hb : base.StaysIn h) (hfun : h.FunFrames base l)
    (k : ∀ e a0 h' t', Heap.FlyingW base l e (.type "ZeroDivisionError") a0 h' → h.UpToSlots h' → E (.ref e) (St b h' t')) :
    wpAny (model prog w) A (call (.ref f) [.ref a, .ref a']) Q E (St b h t) := by
  cases hd
  refine r_enterE F hf (hA.le (by walk_at "m_n")) [("a", .ref a), ("b", .ref a')] [(a, .kI (dg x), false), (a', .kI (dg 0), false)] ⟨⟨hx, rfl⟩, ⟨hy, rfl⟩, trivial⟩ ?_
  intro L' h₁ t₁ code F₁
  have hh := hA.hd
  have hl0 : (dg 0).length = 0 := by rw [dg_zero]; rfl
  refine execs_ifC ?_
  (refine r_len (by with_reducible assumption) (by rfl) (by walk_at "m_has") (by walk_at "m_n") ?_ (by walk_at "m_mem"); intro _ _)
  ((with_reducible refine x_int ?_); intro _ _)
  with_reducible refine P.eq_int ?_
  with_reducible refine wpAny_truthy_bool ?_
  refine ite_beq (fun q1 => ?_) (fun q1 => absurd (by walk_at "m_n") q1)
  with_reducible refine wpAny_execs_cons ?_
  exact x_raise PySem.F.excCall_ZeroDivisionError PySem.F.excRaise_ZeroDivisionError Boot.«ZeroDivisionError» (by assumption) (by walk_at "m_mem") hh hAf hb hfun k

variable {outer : List Env} {cn : Str} {cs : Scope} {ca : Addr} {ccd : Value}
end
section
variable {mg mb : Str → Option Value} {prog : Program} {w : World} {A : Around} {E : Value → Shared → Prop} {b : Shared} {h₀ h : Heap} {L a a' f : Addr} {dl : Option (Addr × Kd)} {t : Nat}
  {m : List (Str × Value)} {led : List Ent} {Q : Value → Shared → Prop} {nm : Str} {ps : Arguments} {bd : List Stmt} {sc : Scope}

theorem to_decimal_c {n : Nat} (F : Fm (Wx mg mb) h₀ L dl h m led) (hd : defAt pw 16 = some (nm, ps, bd, sc)) (hf : FnRef h₀ f (nm, ps, bd, sc)) (hx : Is h a (.kI (dg n))) (hn : n < 1000000000000000000000000000000000000000000000000000000000000) (hA : Rm 1 A)
    (k : ∀ u h' t', Fm (Wx mg mb) h₀ L dl h' m led → Q (.str (Sx (ts n)) u) (St b h' t')) :
    wpAny (model prog w) A (call (.ref f) [.ref a]) Q E (St b h t) := by
  cases hd
  refine r_enter F hf hA [("a", .ref a)] [(a, .kI (dg n), false)] ⟨⟨hx, rfl⟩, trivial⟩ ?_
  intro L' h₁ t₁ code F₁
  have hh := hA.hd
  have hlen : (dg n).length ≤ 15 := dg_len_le (by rw [show (10000 : Int) ^ 15 = 1000000000000000000000000000000000000000000000000000000000000 by decide]; walk_at "m_n")
  refine execs_ifC ?_
  (refine r_len (by with_reducible assumption) (by rfl) (by walk_at "m_has") (by walk_at "m_n") ?_ (by walk_at "m_mem"); intro _ _)
  ((with_reducible refine x_int ?_); intro _ _)
  with_reducible refine P.eq_int ?_
  with_reducible refine wpAny_truthy_bool ?_
  refine ite_beq (fun q1 => ?_) (fun q1 => ?_)
  · with_reducible refine wpAny_execs_cons ?_
    with_reducible refine wpAny_Return_some ?_
    ((with_reducible refine x_str ?_); intro _ _)
    skip
    obtain rfl : n = 0 := dg_nil.mp (List.length_eq_zero_iff.mp (by walk_at "m_n"))
    rw [show Str.ofString "0" = Sx (ts 0) by rw [ts_lt (by decide)]; decide]
    exact k _ _ _ (F.back0 (by with_reducible assumption))
  · obtain ⟨p, hp⟩ : ∃ p, (dg n).length = p + 1 := ⟨(dg n).length - 1, by omega⟩
    have htop : n / 10000 ^ p < 10000 := by
      have := small_of_len (m := n) (k := p + 1) (by walk_at "m_n")
      rw [Nat.pow_succ] at this
      exact Nat.div_lt_of_lt_mul this
    have hlt : (dg n).getD (((dg n).length : Int) - 1).toNat 0 = ((n / 10000 ^ p : Nat) : Int) := by
      rw [show (((dg n).length : Int) - 1).toNat = p by omega, limb_at (by walk_at "m_n"), Nat.mod_eq_of_lt htop]
    with_reducible refine wpAny_execs_nil ?_
    refine execs_asg ?_
    with_reducible refine List_ ?_
    refine args_cons ?_
    refine r_tcall bb_str (by with_reducible assumption) (by walk_at "m_mem") ?_
    refine args_cons ?_
    refine Subscript_ ?_
    refine r_loc (by with_reducible assumption) (by rfl) ?_
    with_reducible refine wpAny_BinOp ?_
    (refine r_len (by with_reducible assumption) (by rfl) (by walk_at "m_has") (by walk_at "m_n") ?_ (by walk_at "m_mem"); intro _ _)
    ((with_reducible refine x_int ?_); intro _ _)
    ((with_reducible refine x_sub ?_); intro _ _)
    (refine x_item (by walk_at "m_has") (by walk_at "m_n") (by walk_at "m_n") (by walk_at "m_n") ?_; intro _)
    with_reducible refine args_nil ?_
    skip
    refine x_strI hlt (by walk_at "m_n") ?_
    intro u₂ t₂
    with_reducible refine args_nil ?_
    refine x_newListS (by assumption) ?_
    intro D h₂ F₂
    (refine r_store (by with_reducible assumption) ?_; intro _ _ _)
    with_reducible refine wpAny_execs_cons ?_
    refine wpAny_For ?_
    refine r_tcall bb_range (by with_reducible assumption) (by walk_at "m_mem") ?_
    refine args_cons ?_
    with_reducible refine wpAny_BinOp ?_
    (refine r_len (by with_reducible assumption) (by rfl) (by walk_at "m_has") (by walk_at "m_n") ?_ (by walk_at "m_mem"); intro _ _)
    ((with_reducible refine x_int ?_); intro _ _)
    ((with_reducible refine x_sub ?_); intro _ _)
    refine args_cons ?_
    with_reducible refine wpAny_UnaryOp ?_
    ((with_reducible refine x_int ?_); intro _ _)
    ((with_reducible refine x_neg ?_); intro _ _)
    refine args_cons ?_
    with_reducible refine wpAny_UnaryOp ?_
    ((with_reducible refine x_int ?_); intro _ _)
    ((with_reducible refine x_neg ?_); intro _ _)
    with_reducible refine args_nil ?_
    (refine x_range3 (by with_reducible assumption) ?_; intro _ _ _ _)
    refine r_down p (by walk_at "m_n") (by assumption) (by walk_at "m_mem") (by walk_at "m_n") hh (σ := List (Str × Tok)) (fun c => some (D, .kS c)) (fun c => [("pieces", .ref D), ("a", .ref a)]) (fun _ => []) [(a, .kI (dg n), false)]
      (fun q c => c.length ≤ 20 - q ∧ (c.map (·.1)).flatMap (fun y => y.cps.toList) = ts (n / 10000 ^ q)) [(Sx (ts (n / 10000 ^ p)), _)] rfl (by walk_at "m_Sub") (by walk_at "m_sub") (fun _ _ q => nomatch q) ⟨by show 1 ≤ 20 - p; omega, by simp⟩ ?_ ?_
    · rintro j c u' h₃ t₃ o I E' hj ⟨hJ1, hJ2⟩ F₃
      dsimp only [List.nil_append, List.cons_append] at hJ1 hJ2 F₃ ⊢
      have hm : n / 10000 ^ j % 10000 < 10000 := Nat.mod_lt _ (by decide)
      with_reducible refine wpAny_execs_cons ?_
      refine wpAny_Expr_any ?_
      refine x_appendCallS (by with_reducible assumption) (by rfl) ?_
      refine x_zfill ?_
      refine r_tcall bb_str (by with_reducible assumption) (by walk_at "m_mem") ?_
      refine args_cons ?_
      refine Subscript_ ?_
      refine r_loc (by with_reducible assumption) (by rfl) ?_
      refine r_loc (by with_reducible assumption) (by rfl) ?_
      (refine x_item (by walk_at "m_has") (by walk_at "m_n") (by walk_at "m_n") (by walk_at "m_n") ?_; intro _)
      with_reducible refine args_nil ?_
      skip
      refine x_strI (n := n / 10000 ^ j % 10000) (by rw [Int.toNat_natCast]; exact limb_at (by walk_at "m_n")) (by walk_at "m_n") ?_
      intro u₄ t₄
      refine ⟨_, _, _, _, rfl, rfl, hm, ?_⟩
      intro u₅ t₅
      refine x_appendS (by assumption) (by walk_at "m_n") ?_
      intro h₅ F₅
      with_reducible refine wpAny_execs_nil ?_
      refine turn_next _ (by assumption) rfl (by walk_at "m_Sub") (by walk_at "m_sub") ⟨by rw [List.length_append, List.length_singleton]; omega, ?_⟩
      rw [List.map_append, List.flatMap_append, hJ2, ts_limb (p := j) (by walk_at "m_n")]
      simp
    · rintro c h₃ t₃ ⟨hJ1, hJ2⟩ F₃
      dsimp only [List.nil_append, List.cons_append] at hJ1 hJ2 F₃ ⊢
      rw [Nat.pow_zero, Nat.div_one] at hJ2
      with_reducible refine wpAny_execs_cons ?_
      with_reducible refine wpAny_Return_some ?_
      skip
      refine x_join (by with_reducible assumption) (by rfl) hJ2 (Nat.le_trans (ts_len (k := 60) (by decide) hn) (by decide)) ?_
      intro u₄ t₄
      exact k _ _ _ (F.back0 F₃)
end
section
variable {mg mb : Str → Option Value} {prog : Program} {w : World} {A : Around} {E : Value → Shared → Prop} {b : Shared} {h₀ h : Heap} {L a a' f : Addr} {dl : Option (Addr × Kd)} {t : Nat}
  {m : List (Str × Value)} {led : List Ent} {Q : Value → Shared → Prop} {nm : Str} {ps : Arguments} {bd : List Stmt} {sc : Scope}

/-- what is_natural says -/
def natB (xs : List Int) : Bool := xs.all (fun x => decide (0 ≤ x) && decide (x < 10000)) && (decide (xs.length = 0) || decide (xs.getD (xs.length - 1) 0 ≠ 0))
theorem natB_dg (n : Nat) : natB (dg n) = true := by
  unfold natB
  rw [Bool.and_eq_true]
  refine ⟨List.all_eq_true.mpr fun x hx => ?_, ?_⟩
  · have := ok_dg n x hx
    rw [decide_eq_true this.1, decide_eq_true this.2]; rfl
  · by_cases z : (dg n).length = 0
    · rw [decide_eq_true z]; rfl
    · have h1 : (dg n).length - 1 < (dg n).length := by walk_at "m_n"
      have h2 := limb_ge.mpr h1
      have h3 := small_of_len (m := n) (k := (dg n).length) (Nat.le_refl _)
      have h4 : (dg n).getD ((dg n).length - 1) 0 ≠ 0 := by
        rw [limb_at h1]
        obtain ⟨p, hp⟩ : ∃ p, (dg n).length = p + 1 := ⟨(dg n).length - 1, by omega⟩
        rw [hp] at h2 h3 ⊢
        rw [Nat.pow_succ] at h3
        rw [Nat.add_sub_cancel] at h2 ⊢
        have h5 : n / 10000 ^ p < 10000 := Nat.div_lt_of_lt_mul h3
        have h6 : 0 < n / 10000 ^ p := Nat.div_pos h2 (Nat.pow_pos (by decide))
        rw [Nat.mod_eq_of_lt h5]; walk_at "m_n"
      rw [decide_eq_true h4, Bool.or_true]
theorem natB_bad {xs ys : List Int} {v : Int} (h : ¬ (0 ≤ v ∧ v < 10000)) : natB (xs ++ [v] ++ ys) = false := by
  have e : (decide (0 ≤ v) && decide (v < 10000)) = false := by
    rw [Bool.and_eq_false_iff, decide_eq_false_iff_not, decide_eq_false_iff_not]
    omega
  unfold natB
  rw [List.all_append, List.all_append]
  simp only [List.all_cons, e, Bool.false_and, Bool.and_false, List.all_nil]
theorem natB_pad {xs : List Int} {k : Nat} (hk : 0 < k) : natB (xs ++ List.replicate k 0) = false := by
  have hl : (xs ++ List.replicate k (0 : Int)).length = xs.length + k := by rw [List.length_append, List.length_replicate]
  unfold natB
  rw [hl, decide_eq_false (show ¬ xs.length + k = 0 by walk_at "m_n")]
  have : (xs ++ List.replicate k (0 : Int)).getD (xs.length + k - 1) 0 = 0 := by
    rw [List.getD_eq_getElem?_getD, List.getElem?_append_right (by walk_at "m_n"), List.getElem?_replicate]
    split <;> rfl
  rw [this]; simp
theorem is_natural_c {xs : List Int} (F : Fm (Wx mg mb) h₀ L dl h m led) (hd : defAt pw 2 = some (nm, ps, bd, sc)) (hf : FnRef h₀ f (nm, ps, bd, sc)) (hx : Is h a (.kI xs)) (hn : xs.length ≤ 5000) (hA : Rm 1 A)
    (k : ∀ h' t', Fm (Wx mg mb) h₀ L dl h' m led → Q (.bool (natB xs)) (St b h' t')) :
    wpAny (model prog w) A (call (.ref f) [.ref a]) Q E (St b h t) := by
  cases hd
  refine r_enter F hf hA [("a", .ref a)] [(a, .kI xs, false)] ⟨⟨hx, rfl⟩, trivial⟩ ?_
  intro L' h₁ t₁ code F₁
  have hh := hA.hd
  have no : ∀ j, j < xs.length → ¬ (0 ≤ xs.getD j 0 ∧ xs.getD j 0 < 10000) → natB xs = false := fun j hj hv => by
    have e : xs = xs.take j ++ [xs.getD j 0] ++ xs.drop (j + 1) := by
      rw [← take_succ hj, List.take_append_drop]
    rw [e]; exact natB_bad hv
  with_reducible refine wpAny_execs_cons ?_
  refine wpAny_For ?_
  refine r_loc (by with_reducible assumption) (by rfl) ?_
  refine r_list (by with_reducible assumption) (by walk_at "m_mem") hh (σ := Unit) (fun _ => none) (fun _ => [("a", .ref a)]) (fun _ => []) [(a, .kI xs, false)] (fun j _ => ∀ x ∈ xs.take j, 0 ≤ x ∧ x < 10000) () rfl (by walk_at "m_Sub") (by walk_at "m_sub") (fun _ _ q => nomatch q) (fun _ q => nomatch q) ?_ ?_
  · rintro j c u' h₃ t₃ o I oX E' hj hJ F₃
    dsimp only [List.nil_append, List.cons_append] at hJ F₃ ⊢
    with_reducible refine wpAny_execs_cons ?_
    with_reducible refine wpAny_If ?_
    with_reducible refine wpAny_isTrue_BoolOp ?_
    with_reducible refine wpAny_allTrue_Or_cons ?_
    refine wpAny_isTrue_Compare1 ?_
    refine r_loc (by with_reducible assumption) (by rfl) ?_
    ((with_reducible refine x_int ?_); intro _ _)
    with_reducible refine P.lt_int ?_
    with_reducible refine wpAny_truthy_bool ?_
    refine ite_dec (fun q1 => ?_) (fun q1 => ?_)
    · with_reducible refine ite_t ?_
      with_reducible refine wpAny_execs_cons ?_
      with_reducible refine wpAny_Return_some ?_
      with_reducible refine x_bool ?_
      skip
      rw [no j hj (by walk_at "m_n")] at k
      exact k _ _ (F.back0 F₃)
    · with_reducible refine wpAny_allTrue_Or_cons ?_
      refine wpAny_isTrue_Compare1 ?_
      refine r_loc (by with_reducible assumption) (by rfl) ?_
      (refine r_base (by with_reducible assumption) ?_; intro _)
      with_reducible refine P.ge_int ?_
      with_reducible refine wpAny_truthy_bool ?_
      refine ite_dec (fun q2 => ?_) (fun q2 => ?_)
      · with_reducible refine ite_t ?_
        with_reducible refine wpAny_execs_cons ?_
        with_reducible refine wpAny_Return_some ?_
        with_reducible refine x_bool ?_
        skip
        rw [no j hj (by walk_at "m_n")] at k
        exact k _ _ (F.back0 F₃)
      · with_reducible refine wpAny_allTrue_Or_nil ?_
        with_reducible refine ite_f ?_
        with_reducible refine wpAny_execs_nil ?_
        with_reducible refine wpAny_execs_nil ?_
        refine turn_next () (by assumption) rfl (by walk_at "m_Sub") (by walk_at "m_sub") ?_
        intro x hx
        rw [take_succ hj] at hx
        rcases List.mem_append.mp hx with hx | hx
        · exact hJ x hx
        · rw [List.mem_singleton.mp hx]; walk_at "m_n"
  · rintro c h₃ t₃ hJ F₃
    dsimp only [List.nil_append, List.cons_append] at hJ F₃ ⊢
    rw [List.take_of_length_le (Nat.le_refl _)] at hJ
    have hall : xs.all (fun x => decide (0 ≤ x) && decide (x < 10000)) = true := List.all_eq_true.mpr fun x hx => by
      have := hJ x hx
      rw [decide_eq_true this.1, decide_eq_true this.2]; rfl
    have hB : natB xs = (decide (xs.length = 0) || decide (xs.getD (xs.length - 1) 0 ≠ 0)) := by unfold natB; rw [hall, Bool.true_and]
    rw [hB] at k
    with_reducible refine wpAny_execs_cons ?_
    with_reducible refine wpAny_Return_some ?_
    with_reducible refine BoolOp_or ?_
    refine wpAny_Compare1 ?_
    (refine r_len (by with_reducible assumption) (by rfl) (by walk_at "m_has") (by walk_at "m_n") ?_ (by walk_at "m_mem"); intro _ _)
    ((with_reducible refine x_int ?_); intro _ _)
    with_reducible refine P.eq_int ?_
    with_reducible refine wpAny_truthy_bool ?_
    skip
    refine ite_beq (fun q1 => ?_) (fun q1 => ?_)
    · have e : decide (xs.length = 0) = true := decide_eq_true (by walk_at "m_n")
      rw [e] at k
      have e2 : (((xs.length : Nat) : Int) == 0) = true := by rw [beq_iff_eq]; exact q1
      rw [e2]
      exact k _ _ (F.back0 (by with_reducible assumption))
    · have e : decide (xs.length = 0) = false := decide_eq_false (by walk_at "m_n")
      rw [e] at k
      with_reducible refine BoolOp_one ?_
      refine wpAny_Compare1 ?_
      refine Subscript_ ?_
      refine r_loc (by with_reducible assumption) (by rfl) ?_
      with_reducible refine wpAny_BinOp ?_
      (refine r_len (by with_reducible assumption) (by rfl) (by walk_at "m_has") (by walk_at "m_n") ?_ (by walk_at "m_mem"); intro _ _)
      ((with_reducible refine x_int ?_); intro _ _)
      ((with_reducible refine x_sub ?_); intro _ _)
      (refine x_item (by walk_at "m_has") (by walk_at "m_n") (by walk_at "m_n") (by walk_at "m_n") ?_; intro _)
      ((with_reducible refine x_int ?_); intro _ _)
      with_reducible refine P.ne_int ?_
      rw [show (((xs.length : Nat) : Int) - 1).toNat = xs.length - 1 by walk_at "m_n"]
      have e2 : (xs.getD (xs.length - 1) 0 != 0) = decide (xs.getD (xs.length - 1) 0 ≠ 0) := by
        by_cases z : xs.getD (xs.length - 1) 0 = 0
        · rw [z]; rfl
        · rw [decide_eq_true z, bne_iff_ne]; exact z
      rw [e2]
      exact k _ _ (F.back0 (by with_reducible assumption))

/-- what _law_limb says -/
def limbOf (x : Int) : Nat := if x % 3 = 0 then (x / 3 % 10000).toNat else ([1, 9999, 0, 2, 5000, 9999] : List Nat).getD (x / 3 % 6).toNat 0
theorem edges_at : ∀ i : Nat, ([1, 9999, 0, 2, 5000, 9999] : List Int).getD i 0 = ((([1, 9999, 0, 2, 5000, 9999] : List Nat).getD i 0 : Nat) : Int) ∧ ([1, 9999, 0, 2, 5000, 9999] : List Nat).getD i 0 < 10000
  | 0 => by decide
  | 1 => by decide
  | 2 => by decide
  | 3 => by decide
  | 4 => by decide
  | 5 => by decide
  | _ + 6 => ⟨rfl, show 0 < 10000 by decide⟩
theorem limbOf_lt (x : Int) : limbOf x < 10000 := by
  unfold limbOf; split
  · omega
  · exact (edges_at _).2
theorem law_limb_c {c : Int} {u : Tok} (F : Fm (Wx mg mb) h₀ L dl h m led) (hd : defAt pw 21 = some (nm, ps, bd, sc)) (hf : FnRef h₀ f (nm, ps, bd, sc)) (hA : Rm 1 A)
    (k : ∀ u h' t', Fm (Wx mg mb) h₀ L dl h' m led → Q (.int ((limbOf c : Nat) : Int) u) (St b h' t')) :
    wpAny (model prog w) A (call (.ref f) [.int c u]) Q E (St b h t) := by
  cases hd
  refine r_enter F hf hA [("x", .int c u)] [] trivial ?_
  intro L' h₁ t₁ code F₁
  refine execs_ifC ?_
  with_reducible refine wpAny_BinOp ?_
  refine r_loc (by with_reducible assumption) (by rfl) ?_
  ((with_reducible refine x_int ?_); intro _ _)
  ((with_reducible refine x_mod (by walk_at "m_n") ?_); intro _ _)
  ((with_reducible refine x_int ?_); intro _ _)
  with_reducible refine P.eq_int ?_
  with_reducible refine wpAny_truthy_bool ?_
  refine ite_beq (fun q1 => ?_) (fun q1 => ?_)
  · with_reducible refine wpAny_execs_cons ?_
    with_reducible refine wpAny_Return_some ?_
    with_reducible refine wpAny_BinOp ?_
    with_reducible refine wpAny_BinOp ?_
    refine r_loc (by with_reducible assumption) (by rfl) ?_
    ((with_reducible refine x_int ?_); intro _ _)
    ((with_reducible refine x_div (by walk_at "m_n") (by walk_at "m_n") ?_); intro _ _)
    ((with_reducible refine x_int ?_); intro _ _)
    ((with_reducible refine x_mod (by walk_at "m_n") ?_); intro _ _)
    skip
    rw [show c / 3 % 10000 = ((limbOf c : Nat) : Int) by unfold limbOf; rw [if_pos q1]; omega]
    exact k _ _ _ (F.back0 (by with_reducible assumption))
  · with_reducible refine wpAny_execs_nil ?_
    with_reducible refine wpAny_execs_cons ?_
    with_reducible refine wpAny_Return_some ?_
    refine Subscript_ ?_
    (refine r_tab (by with_reducible assumption) (by walk_at "m_mem") ?_; intro _ _ _ _)
    with_reducible refine wpAny_BinOp ?_
    with_reducible refine wpAny_BinOp ?_
    refine r_loc (by with_reducible assumption) (by rfl) ?_
    ((with_reducible refine x_int ?_); intro _ _)
    ((with_reducible refine x_div (by walk_at "m_n") (by walk_at "m_n") ?_); intro _ _)
    ((with_reducible refine x_int ?_); intro _ _)
    ((with_reducible refine x_mod (by walk_at "m_n") ?_); intro _ _)
    (refine x_itemT (by with_reducible assumption) (by with_reducible assumption) (by walk_at "m_n") (by simp only [List.length_cons, List.length_nil]; walk_at "m_n") (by walk_at "m_n") ?_; intro _)
    skip
    rw [(edges_at _).1, show ([1, 9999, 0, 2, 5000, 9999] : List Nat).getD (c / 3 % 6).toNat 0 = limbOf c by unfold limbOf; rw [if_neg q1]]
    exact k _ _ _ (F.back0 (by with_reducible assumption))

theorem law_number_c {x y z s : Int} {u₁ u₂ u₃ u₄ : Tok} (F : Fm (Wx mg mb) h₀ L dl h m led) (hd : defAt pw 22 = some (nm, ps, bd, sc)) (hf : FnRef h₀ f (nm, ps, bd, sc)) (hA : Rm 2 A)
    (k : ∀ (v : Nat) u h' t', v < 1000000000000 → Fm (Wx mg mb) h₀ L dl h' m led → Q (.int (v : Int) u) (St b h' t')) :
    wpAny (model prog w) A (call (.ref f) [.int x u₁, .int y u₂, .int z u₃, .int s u₄]) Q E (St b h t) := by
  cases hd
  refine r_enter F hf (hA.le (by walk_at "m_n")) [("x", .int x u₁), ("y", .int y u₂), ("z", .int z u₃), ("size", .int s u₄)] [] trivial ?_
  intro L' h₁ t₁ code F₁
  have b1 := limbOf_lt x
  have b2 := limbOf_lt y
  have b3 := limbOf_lt z
  have hp := pw_pos (s % 4).toNat
  refine execs_asg ?_
  with_reducible refine wpAny_BinOp ?_
  with_reducible refine wpAny_BinOp ?_
  (refine r_callL1 (by with_reducible assumption) (by rfl) (by rfl) (by rfl) ?_; intro _ _)
  skip
  refine ⟨Fm.keep (by with_reducible assumption), law_limb_c (by with_reducible assumption) (by rfl) (by assumption) hA.deeper ?_⟩
  intro v₁ h₂ t₂ F₂
  with_reducible refine wpAny_BinOp ?_
  (refine r_callL1 (by with_reducible assumption) (by rfl) (by rfl) (by rfl) ?_; intro _ _)
  skip
  refine ⟨Fm.keep (by with_reducible assumption), law_limb_c (by with_reducible assumption) (by rfl) (by assumption) hA.deeper ?_⟩
  intro v₂ h₃ t₃ F₃
  ((with_reducible refine x_int ?_); intro _ _)
  ((with_reducible refine x_mul (by first | exact IntMulOk.of_right (intBits_le_64 (by walk_at "m_n") (by walk_at "m_n")) | exact IntMulOk.of_left (intBits_le_64 (by walk_at "m_n") (by walk_at "m_n")) | exact mul_fits2 (by walk_at "m_n") (by walk_at "m_n") (by walk_at "m_n") (by walk_at "m_n")) ?_); intro _ _)
  ((with_reducible refine x_add ?_); intro _ _)
  with_reducible refine wpAny_BinOp ?_
  (refine r_callL1 (by with_reducible assumption) (by rfl) (by rfl) (by rfl) ?_; intro _ _)
  skip
  refine ⟨Fm.keep (by with_reducible assumption), law_limb_c (by with_reducible assumption) (by rfl) (by assumption) hA.deeper ?_⟩
  intro v₃ h₄ t₄ F₄
  ((with_reducible refine x_int ?_); intro _ _)
  ((with_reducible refine x_mul (by first | exact IntMulOk.of_right (intBits_le_64 (by walk_at "m_n") (by walk_at "m_n")) | exact IntMulOk.of_left (intBits_le_64 (by walk_at "m_n") (by walk_at "m_n")) | exact mul_fits2 (by walk_at "m_n") (by walk_at "m_n") (by walk_at "m_n") (by walk_at "m_n")) ?_); intro _ _)
  ((with_reducible refine x_add ?_); intro _ _)
  (refine r_store (by with_reducible assumption) ?_; intro _ _ _)
  with_reducible refine wpAny_execs_cons ?_
  with_reducible refine wpAny_Return_some ?_
  with_reducible refine wpAny_BinOp ?_
  refine r_loc (by with_reducible assumption) (by rfl) ?_
  with_reducible refine wpAny_BinOp ?_
  ((with_reducible refine x_int ?_); intro _ _)
  with_reducible refine wpAny_BinOp ?_
  refine r_loc (by with_reducible assumption) (by rfl) ?_
  ((with_reducible refine x_int ?_); intro _ _)
  ((with_reducible refine x_mod (by walk_at "m_n") ?_); intro _ _)
  ((with_reducible refine x_pow (by walk_at "m_n") (pow_fits (by walk_at "m_n") (by walk_at "m_n") (by walk_at "m_n") (by walk_at "m_n")) ?_); intro _ _)
  ((with_reducible refine x_mod (by walk_at "m_n") ?_); intro _ _)
  skip
  obtain ⟨P, hP⟩ := Int.eq_ofNat_of_zero_le (Int.le_of_lt hp)
  have e : ((limbOf x : Int) + (limbOf y : Int) * 10000 + (limbOf z : Int) * 100000000) % 10000 ^ (s % 4).toNat = (((limbOf x + limbOf y * 10000 + limbOf z * 100000000) % P : Nat) : Int) := by
    rw [hP, Int.natCast_emod, Int.natCast_add, Int.natCast_add, Int.natCast_mul, Int.natCast_mul]; rfl
  have hle := Nat.mod_le (limbOf x + limbOf y * 10000 + limbOf z * 100000000) P
  rw [e]
  exact k _ _ _ _ (by walk_at "m_n") (F.back0 (by with_reducible assumption))

theorem law_limbs_c {i : Int} {n : Nat} {u : Tok} (F : Fm (Wx mg mb) h₀ L dl h m led) (hd : defAt pw 23 = some (nm, ps, bd, sc)) (hf : FnRef h₀ f (nm, ps, bd, sc)) (hi : i = (n : Int)) (hn : n < 10000000000000000000000000000000000000000000000000000000000000) (hA : Rm 1 A)
    (k : ∀ r h' t', Fm (Wx mg mb) h₀ L dl h' m ((r, .kP (dg n), true) :: led) → Q (.ref r) (St b h' t')) :
    wpAny (model prog w) A (call (.ref f) [.int i u]) Q E (St b h t) := by
  cases hd
  subst hi
  refine r_enter F hf hA [("n", .int (n : Int) u)] [] trivial ?_
  intro L' h₁ t₁ code F₁
  have hh := hA.hd
  have hlen : (dg n).length ≤ 16 := dg_len_le (by rw [show (10000 : Int) ^ 16 = 10000000000000000000000000000000000000000000000000000000000000000 by decide]; walk_at "m_n")
  refine execs_asg ?_
  with_reducible refine List_ ?_
  with_reducible refine args_nil ?_
  skip
  refine x_newListD (by assumption) .nil (by decide) ?_
  intro D h₂ F₂
  (refine r_store (by with_reducible assumption) ?_; intro _ _ _)
  with_reducible refine wpAny_execs_cons ?_
  refine wpAny_For ?_
  refine r_tcall bb_range (by with_reducible assumption) (by walk_at "m_mem") ?_
  refine args_cons ?_
  ((with_reducible refine x_int ?_); intro _ _)
  with_reducible refine args_nil ?_
  (refine x_range1 (by with_reducible assumption) ?_; intro _ _ _ _ _ _ _)
  refine r_up 16 (by walk_at "m_n") (by assumption) (by walk_at "m_mem") (by rfl) hh (σ := List Int × Int × Tok) (fun c => some (D, .kP c.1)) (fun c => [("out", .ref D), ("n", .int c.2.1 c.2.2)]) (fun _ => []) []
    (fun i c => 0 ≤ c.2.1 ∧ c.1 ++ dg c.2.1.toNat = dg n ∧ (c.2.1 = 0 ∨ c.1.length = i)) ([], (n : Int), u) rfl (by walk_at "m_Sub") (by walk_at "m_sub") (fun _ _ q => nomatch q) ⟨Int.natCast_nonneg _, by simp, .inr rfl⟩ ?_ ?_
  · rintro j ⟨acc, v, u₂⟩ u' h₂ t₂ o I E' hj ⟨hJ0, hJ1, hJ2⟩ F₂
    dsimp only [List.nil_append, List.cons_append] at hJ0 hJ1 hJ2 F₂ ⊢
    have hl : acc.length ≤ 16 := by have := congrArg List.length hJ1; rw [List.length_append] at this; walk_at "m_n"
    refine execs_ifC ?_
    refine r_loc (by with_reducible assumption) (by rfl) ?_
    ((with_reducible refine x_int ?_); intro _ _)
    with_reducible refine P.gt_int ?_
    with_reducible refine wpAny_truthy_bool ?_
    refine ite_dec (fun q1 => ?_) (fun q1 => ?_)
    · with_reducible refine wpAny_execs_cons ?_
      refine wpAny_Expr_any ?_
      refine x_appendCall (by with_reducible assumption) (by rfl) ?_
      with_reducible refine wpAny_BinOp ?_
      refine r_loc (by with_reducible assumption) (by rfl) ?_
      ((with_reducible refine x_int ?_); intro _ _)
      ((with_reducible refine x_mod (by walk_at "m_n") ?_); intro _ _)
      (refine x_append (by with_reducible assumption) (by walk_at "m_n") ?_; intro _ _)
      refine execs_asg ?_
      with_reducible refine wpAny_BinOp ?_
      refine r_loc (by with_reducible assumption) (by rfl) ?_
      ((with_reducible refine x_int ?_); intro _ _)
      ((with_reducible refine x_div (by walk_at "m_n") (by walk_at "m_n") ?_); intro _ _)
      (refine r_store (by with_reducible assumption) ?_; intro _ _ _)
      with_reducible refine wpAny_execs_nil ?_
      with_reducible refine wpAny_execs_nil ?_
      refine turn_next (_, _, _) (by assumption) rfl (by walk_at "m_Sub") (by walk_at "m_sub") ⟨by dsimp only; omega, ?_, .inr (by rw [List.length_append, List.length_singleton]; walk_at "m_n")⟩
      skip
      rw [← hJ1, fi_step q1]; simp
    · with_reducible refine wpAny_execs_nil ?_
      with_reducible refine wpAny_execs_nil ?_
      exact turn_next (acc, v, _) (by assumption) rfl (by walk_at "m_Sub") (by walk_at "m_sub") ⟨hJ0, hJ1, .inl (by dsimp only; walk_at "m_n")⟩
  · rintro ⟨acc, v, u₂⟩ h₂ t₂ ⟨hJ0, hJ1, hJ2⟩ F₂
    dsimp only [List.nil_append, List.cons_append] at hJ0 hJ1 hJ2 F₂ ⊢
    have e : acc = dg n := by
      rcases hJ2 with z | z
      · rw [← hJ1, z]; simp [dg_zero]
      · have := congrArg List.length hJ1
        rw [List.length_append] at this
        have hv : dg v.toNat = [] := List.length_eq_zero_iff.mp (by walk_at "m_n")
        rw [← hJ1, hv, List.append_nil]
    subst e
    with_reducible refine wpAny_execs_cons ?_
    with_reducible refine wpAny_Return_some ?_
    refine r_loc (by with_reducible assumption) (by rfl) ?_
    skip
    exact k D _ _ (F.back F₂.unD (by walk_at "m_mem"))
end
section
variable {mg mb : Str → Option Value} {prog : Program} {w : World} {A : Around} {E : Value → Shared → Prop} {b : Shared} {h₀ h : Heap} {L a a' f : Addr} {dl : Option (Addr × Kd)} {t : Nat}
  {m : List (Str × Value)} {led : List Ent} {Q : Value → Shared → Prop} {nm : Str} {ps : Arguments} {bd : List Stmt} {sc : Scope}

/-- the shapes of the answers -/
inductive Sh where
  | L (v : Nat)
  | T (v w : Nat)
  | P (v w : Nat)
  | N
def Sh.dat : Sh → PyData
  | .L v => lint (dg v)
  | .T v w => .tuple [lint (dg v), lint (dg w)]
  | .P v w => .tuple [lint (dg v), .int (w : Int)]
  | .N => .str "refused"
inductive AnsIs : Sh → Value → List Ent → Prop
  | L (v : Nat) (a : Addr) : AnsIs (.L v) (.ref a) [(a, .kP (dg v), true)]
  | T (v w : Nat) (r q q' : Addr) : AnsIs (.T v w) (.ref r) [(r, .kT [.ref q, .ref q'], true), (q, .kP (dg v), true), (q', .kP (dg w), true)]
  | P (v w : Nat) (r q : Addr) (u : Tok) : AnsIs (.P v w) (.ref r) [(r, .kT [.ref q, .int (w : Int) u], true), (q, .kP (dg v), true)]
  | N (u : Tok) : AnsIs .N (.str "refused" u) []
theorem AnsIs.new {s : Sh} {v : Value} {es : List Ent} (x : AnsIs s v es) : (es.all fun q => q.2.2) = true := by cases x <;> rfl
theorem AnsIs.notDat {s : Sh} {v : Value} {es : List Ent} (x : AnsIs s v es) : (es.all fun q => q.2.1.notDat) = true := by cases x <;> rfl
theorem AnsIs.rd {s : Sh} {v : Value} {es : List Ent} {h : Heap} (x : AnsIs s v es) (y : ∀ q ∈ es, Is h q.1 q.2.1) : Rd h v s.dat := by
  cases x with
  | L v a => exact Rd.il (y _ (.head _)).pl_ints
  | T v w r q q' => exact Rd.tup (y _ (.head _)) (.cons (Rd.il (y _ (.tail _ (.head _))).pl_ints) (.cons (Rd.il (y _ (.tail _ (.tail _ (.head _)))).pl_ints) .nil))
  | P v w r q u => exact Rd.tup (y _ (.head _)) (.cons (Rd.il (y _ (.tail _ (.head _))).pl_ints) (.cons (Rd.int _ _) .nil))
  | N u => exact Rd.str _ _
theorem ref_lay : (PyData.str "refused").canLay0 = true := by decide +kernel
theorem Sh.lay (s : Sh) : s.dat.canLay0 = true ∧ s.dat.depth ≤ 64 := by
  have two : ∀ {d d' : PyData}, Plain d → Plain d' → (PyData.tuple [d, d']).canLay0 = true ∧ (PyData.tuple [d, d']).depth ≤ 64 := fun p p' => tup_lay fun d hd => by
    rcases List.mem_cons.mp hd with rfl | hd
    · exact p
    · rcases List.mem_cons.mp hd with rfl | hd
      · exact p'
      · cases hd
  cases s with
  | L v => exact ⟨lay_ints _, Nat.le_trans (depth_ints _) (by decide)⟩
  | T v w => exact two (.lst _) (.lst _)
  | P v w => exact two (.lst _) (.int _)
  | N => exact ⟨ref_lay, by simp [Sh.dat, PyData.depth]⟩
/-- which answer is due -/
def sh (op m n : Nat) (x : Int) : Sh := match op with
  | 0 => .L (m + n)
  | 1 => .L (m * n)
  | 2 => .L (m * limbOf x)
  | 3 => .L (m * 10000 ^ (x % 3).toNat)
  | 4 => .L (m ^ (x % 4).toNat)
  | 5 => .T (m % 10000 ^ (x % 4).toNat) (m / 10000 ^ (x % 4).toNat)
  | 6 => .P (m / (1 + x % 9999).toNat) (m % (1 + x % 9999).toNat)
  | 7 => if m < n then .N else .L (m - n)
  | _ => if n = 0 then .N else .T (m / n) (m % n)
/-- the next registers -/
def nx (op m n : Nat) : Sh → Nat × Nat
  | .L v => (v, m)
  | .T v w => if op = 5 then (w, v) else (v, w)
  | .P v w => (v, w)
  | .N => (m, n)
variable {outer : List Env} {cn : Str} {cs : Scope} {ca : Addr} {ccd : Value}
theorem law_answer_c {M N op : Nat} {oi x : Int} {u₁ u₂ : Tok} {n n' : Bool} (F : Fm (Wx mg mb) h₀ L none h m led) (S : Stk A outer led) (hd : defAt pw 24 = some (nm, ps, bd, sc)) (hf : FnRef h₀ f (nm, ps, bd, sc)) (ho : oi = (op : Int)) (ho8 : op ≤ 8)
    (hx : (a, .kP (dg M), n) ∈ led) (hy : (a', .kP (dg N), n') ∈ led) (hM : M < 100000000000000000000) (hN : N < 100000000000000000000) (hck : cs.kind = .function) (hA : Rm 6 (A.deeper (envOf cn cs L ca ccd)))
    (k : ∀ v es h' t', AnsIs (sh op M N x) v es → Fm (Wx mg mb) h₀ L none h' m (es ++ led) → Q v (St b h' t')) :
    wpAny (model prog w) (A.deeper (envOf cn cs L ca ccd)) (call (.ref f) [.ref a, .ref a', .int oi u₁, .int x u₂]) Q E (St b h t) := by
  cases hd
  subst ho
  have lM : (dg M).length ≤ 5 := dg_len_le (by rw [show (10000 : Int) ^ 5 = 100000000000000000000 by decide]; walk_at "m_n")
  have lN : (dg N).length ≤ 5 := dg_len_le (by rw [show (10000 : Int) ^ 5 = 100000000000000000000 by decide]; walk_at "m_n")
  refine r_enterH F S hf (hA.le (by walk_at "m_n")) [("a", .ref a), ("b", .ref a'), ("op", .int (op : Int) u₁), ("x", .int x u₂)] ?_ hck
  intro L' h₁ t₁ code d F₁ S₁ hm₁
  replace F₁ := (F₁.also (.tail _ hx) (fun _ x => x)).also (.tail _ (.tail _ hy)) (fun _ x => x)
  replace S₁ := S₁.sub (led' := (a', .kP (dg N), n') :: (a, .kP (dg M), n) :: (L, .kD d, true) :: led) (fun _ q => .tail _ (.tail _ q))
  rcases (le8 (by walk_at "m_n")) with rfl | rfl | rfl | rfl | rfl | rfl | rfl | rfl | rfl
  · refine execs_asg ?_
    with_reducible refine x_none ?_
    (refine r_store (by with_reducible assumption) ?_; intro _ _ _)
    (refine x_ifEq (by with_reducible assumption) (by rfl) (by walk_at "m_n") ?_; intro _)
    with_reducible refine wpAny_execs_cons ?_
    with_reducible refine wpAny_Return_some ?_
    (refine r_callL2 (by with_reducible assumption) (by rfl) (by rfl) (by rfl) (by rfl) ?_; intro _ _)
    skip
    refine ⟨Fm.keep (by with_reducible assumption), add_c (by with_reducible assumption) (by rfl) (by assumption) (x := M) (by walk_at "m_has") (y := N) (by walk_at "m_has") (by walk_at "m_n") (by walk_at "m_n") (hA.deeper.le (by walk_at "m_n")) ?_⟩
    intro r h₂ t₂ F₂
    skip
    exact k _ _ _ _ (.L _ r) (F.backH hm₁ F₂ [(r, .kP (dg (M + N)), true)] (by walk_at "m_mem") (by walk_at "m_up") (by walk_at "m_sub") rfl)
  · refine execs_asg ?_
    with_reducible refine x_none ?_
    (refine r_store (by with_reducible assumption) ?_; intro _ _ _)
    (refine x_ifNe (by with_reducible assumption) (by rfl) (by walk_at "m_n") ?_; intro _)
    (refine x_ifEq (by with_reducible assumption) (by rfl) (by walk_at "m_n") ?_; intro _)
    with_reducible refine wpAny_execs_cons ?_
    with_reducible refine wpAny_Return_some ?_
    (refine r_callL2 (by with_reducible assumption) (by rfl) (by rfl) (by rfl) (by rfl) ?_; intro _ _)
    skip
    refine ⟨Fm.keep (by with_reducible assumption), mul_school_c (by with_reducible assumption) (by rfl) (by assumption) (x := M) (by walk_at "m_has") (y := N) (by walk_at "m_has") (by walk_at "m_n") (by walk_at "m_n") (hA.deeper.le (by walk_at "m_n")) ?_⟩
    intro r h₂ t₂ F₂
    skip
    exact k _ _ _ _ (.L _ r) (F.backH hm₁ F₂ [(r, .kP (dg (M * N)), true)] (by walk_at "m_mem") (by walk_at "m_up") (by walk_at "m_sub") rfl)
  · refine execs_asg ?_
    with_reducible refine x_none ?_
    (refine r_store (by with_reducible assumption) ?_; intro _ _ _)
    (refine x_ifNe (by with_reducible assumption) (by rfl) (by walk_at "m_n") ?_; intro _)
    (refine x_ifNe (by with_reducible assumption) (by rfl) (by walk_at "m_n") ?_; intro _)
    (refine x_ifEq (by with_reducible assumption) (by rfl) (by walk_at "m_n") ?_; intro _)
    with_reducible refine wpAny_execs_cons ?_
    with_reducible refine wpAny_Return_some ?_
    (refine r_callN (by with_reducible assumption) (by rfl) (by rfl) ?_; intro _ _)
    refine args_loc (by with_reducible assumption) (by rfl) ?_
    refine args_cons ?_
    (refine r_callL1 (by with_reducible assumption) (by rfl) (by rfl) (by rfl) ?_; intro _ _)
    skip
    refine ⟨Fm.keep (by with_reducible assumption), law_limb_c (by with_reducible assumption) (by rfl) (by assumption) (hA.deeper.le (by walk_at "m_n")) ?_⟩
    intro ul h₂ t₂ F₂
    with_reducible refine args_nil ?_
    skip
    refine ⟨Fm.keep (by with_reducible assumption), mul_small_c (by with_reducible assumption) (by rfl) (by assumption) (x := M) (by walk_at "m_has") rfl (by walk_at "m_n") (limbOf_lt x) (hA.deeper.le (by walk_at "m_n")) ?_⟩
    intro r h₃ t₃ F₃
    skip
    exact k _ _ _ _ (.L _ r) (F.backH hm₁ F₃ [(r, .kP (dg (M * limbOf x)), true)] (by walk_at "m_mem") (by walk_at "m_up") (by walk_at "m_sub") rfl)
  · refine execs_asg ?_
    with_reducible refine x_none ?_
    (refine r_store (by with_reducible assumption) ?_; intro _ _ _)
    (refine x_ifNe (by with_reducible assumption) (by rfl) (by walk_at "m_n") ?_; intro _)
    (refine x_ifNe (by with_reducible assumption) (by rfl) (by walk_at "m_n") ?_; intro _)
    (refine x_ifNe (by with_reducible assumption) (by rfl) (by walk_at "m_n") ?_; intro _)
    (refine x_ifEq (by with_reducible assumption) (by rfl) (by walk_at "m_n") ?_; intro _)
    with_reducible refine wpAny_execs_cons ?_
    with_reducible refine wpAny_Return_some ?_
    (refine r_callN (by with_reducible assumption) (by rfl) (by rfl) ?_; intro _ _)
    refine args_loc (by with_reducible assumption) (by rfl) ?_
    refine args_cons ?_
    with_reducible refine wpAny_BinOp ?_
    refine r_loc (by with_reducible assumption) (by rfl) ?_
    ((with_reducible refine x_int ?_); intro _ _)
    ((with_reducible refine x_mod (by walk_at "m_n") ?_); intro _ _)
    with_reducible refine args_nil ?_
    skip
    refine ⟨Fm.keep (by with_reducible assumption), shifted_c (by with_reducible assumption) (by rfl) (by assumption) (x := M) (by walk_at "m_has") (by walk_at "m_n") (by walk_at "m_n") (by walk_at "m_n") (hA.deeper.le (by walk_at "m_n")) ?_⟩
    intro r h₂ t₂ F₂
    skip
    exact k _ _ _ _ (.L _ r) (F.backH hm₁ F₂ [(r, .kP (dg (M * 10000 ^ (x % 3).toNat)), true)] (by walk_at "m_mem") (by walk_at "m_up") (by walk_at "m_sub") rfl)
  · refine execs_asg ?_
    with_reducible refine x_none ?_
    (refine r_store (by with_reducible assumption) ?_; intro _ _ _)
    (refine x_ifNe (by with_reducible assumption) (by rfl) (by walk_at "m_n") ?_; intro _)
    (refine x_ifNe (by with_reducible assumption) (by rfl) (by walk_at "m_n") ?_; intro _)
    (refine x_ifNe (by with_reducible assumption) (by rfl) (by walk_at "m_n") ?_; intro _)
    (refine x_ifNe (by with_reducible assumption) (by rfl) (by walk_at "m_n") ?_; intro _)
    (refine x_ifEq (by with_reducible assumption) (by rfl) (by walk_at "m_n") ?_; intro _)
    with_reducible refine wpAny_execs_cons ?_
    with_reducible refine wpAny_Return_some ?_
    (refine r_callN (by with_reducible assumption) (by rfl) (by rfl) ?_; intro _ _)
    refine args_loc (by with_reducible assumption) (by rfl) ?_
    refine args_cons ?_
    with_reducible refine wpAny_BinOp ?_
    refine r_loc (by with_reducible assumption) (by rfl) ?_
    ((with_reducible refine x_int ?_); intro _ _)
    ((with_reducible refine x_mod (by walk_at "m_n") ?_); intro _ _)
    with_reducible refine args_nil ?_
    skip
    refine ⟨Fm.keep (by with_reducible assumption), pow_nat_c (by with_reducible assumption) (by rfl) (by assumption) (x := M) (by walk_at "m_has") (by walk_at "m_n") (by walk_at "m_n") (by walk_at "m_n") (hA.deeper.le (by walk_at "m_n")) ?_⟩
    intro r h₂ t₂ F₂
    skip
    exact k _ _ _ _ (.L _ r) (F.backH hm₁ F₂ [(r, .kP (dg (M ^ (x % 4).toNat)), true)] (by walk_at "m_mem") (by walk_at "m_up") (by walk_at "m_sub") rfl)
  · refine execs_asg ?_
    with_reducible refine x_none ?_
    (refine r_store (by with_reducible assumption) ?_; intro _ _ _)
    (refine x_ifNe (by with_reducible assumption) (by rfl) (by walk_at "m_n") ?_; intro _)
    (refine x_ifNe (by with_reducible assumption) (by rfl) (by walk_at "m_n") ?_; intro _)
    (refine x_ifNe (by with_reducible assumption) (by rfl) (by walk_at "m_n") ?_; intro _)
    (refine x_ifNe (by with_reducible assumption) (by rfl) (by walk_at "m_n") ?_; intro _)
    (refine x_ifNe (by with_reducible assumption) (by rfl) (by walk_at "m_n") ?_; intro _)
    (refine x_ifEq (by with_reducible assumption) (by rfl) (by walk_at "m_n") ?_; intro _)
    with_reducible refine wpAny_execs_cons ?_
    with_reducible refine wpAny_Return_some ?_
    (refine r_callN (by with_reducible assumption) (by rfl) (by rfl) ?_; intro _ _)
    refine args_loc (by with_reducible assumption) (by rfl) ?_
    refine args_cons ?_
    with_reducible refine wpAny_BinOp ?_
    refine r_loc (by with_reducible assumption) (by rfl) ?_
    ((with_reducible refine x_int ?_); intro _ _)
    ((with_reducible refine x_mod (by walk_at "m_n") ?_); intro _ _)
    with_reducible refine args_nil ?_
    skip
    refine ⟨Fm.keep (by with_reducible assumption), split_at_c (by with_reducible assumption) (by rfl) (by assumption) (x := M) (by walk_at "m_has") (by walk_at "m_n") (by walk_at "m_n") (hA.deeper.le (by walk_at "m_n")) ?_⟩
    intro r q q' h₂ t₂ F₂
    skip
    exact k _ _ _ _ (.T _ _ r q q') (F.backH hm₁ F₂ [(r, .kT [.ref q, .ref q'], true), (q, .kP _, true), (q', .kP _, true)] (by walk_at "m_mem") (by walk_at "m_up") (by walk_at "m_sub") rfl)
  · obtain ⟨v, hv⟩ := Int.eq_ofNat_of_zero_le (show 0 ≤ 1 + x % 9999 by walk_at "m_n")
    have e : (1 + x % 9999).toNat = v := by walk_at "m_n"
    refine execs_asg ?_
    with_reducible refine x_none ?_
    (refine r_store (by with_reducible assumption) ?_; intro _ _ _)
    (refine x_ifNe (by with_reducible assumption) (by rfl) (by walk_at "m_n") ?_; intro _)
    (refine x_ifNe (by with_reducible assumption) (by rfl) (by walk_at "m_n") ?_; intro _)
    (refine x_ifNe (by with_reducible assumption) (by rfl) (by walk_at "m_n") ?_; intro _)
    (refine x_ifNe (by with_reducible assumption) (by rfl) (by walk_at "m_n") ?_; intro _)
    (refine x_ifNe (by with_reducible assumption) (by rfl) (by walk_at "m_n") ?_; intro _)
    (refine x_ifNe (by with_reducible assumption) (by rfl) (by walk_at "m_n") ?_; intro _)
    (refine x_ifEq (by with_reducible assumption) (by rfl) (by walk_at "m_n") ?_; intro _)
    with_reducible refine wpAny_execs_cons ?_
    with_reducible refine wpAny_Return_some ?_
    (refine r_callN (by with_reducible assumption) (by rfl) (by rfl) ?_; intro _ _)
    refine args_loc (by with_reducible assumption) (by rfl) ?_
    refine args_cons ?_
    with_reducible refine wpAny_BinOp ?_
    ((with_reducible refine x_int ?_); intro _ _)
    with_reducible refine wpAny_BinOp ?_
    refine r_loc (by with_reducible assumption) (by rfl) ?_
    ((with_reducible refine x_int ?_); intro _ _)
    ((with_reducible refine x_mod (by walk_at "m_n") ?_); intro _ _)
    ((with_reducible refine x_add ?_); intro _ _)
    with_reducible refine args_nil ?_
    skip
    refine ⟨Fm.keep (by with_reducible assumption), divmod_small_c (by with_reducible assumption) (by rfl) (by assumption) (x := M) (by walk_at "m_has") hv (by walk_at "m_n") (by walk_at "m_n") (by walk_at "m_n") (hA.deeper.le (by walk_at "m_n")) ?_⟩
    intro r q uu h₂ t₂ F₂
    skip
    refine k _ _ _ _ (show AnsIs (.P (M / (1 + x % 9999).toNat) (M % (1 + x % 9999).toNat)) _ _ from ?_) (F.backH hm₁ F₂ [(r, .kT [.ref q, .int ((M % v : Nat) : Int) uu], true), (q, .kP (dg (M / v)), true)] (by walk_at "m_mem") (by walk_at "m_up") (by walk_at "m_sub") rfl)
    rw [e]
    exact .P _ _ r q uu
  · refine execs_asg ?_
    with_reducible refine x_none ?_
    (refine r_store (by with_reducible assumption) ?_; intro _ _ _)
    (refine x_ifNe (by with_reducible assumption) (by rfl) (by walk_at "m_n") ?_; intro _)
    (refine x_ifNe (by with_reducible assumption) (by rfl) (by walk_at "m_n") ?_; intro _)
    (refine x_ifNe (by with_reducible assumption) (by rfl) (by walk_at "m_n") ?_; intro _)
    (refine x_ifNe (by with_reducible assumption) (by rfl) (by walk_at "m_n") ?_; intro _)
    (refine x_ifNe (by with_reducible assumption) (by rfl) (by walk_at "m_n") ?_; intro _)
    (refine x_ifNe (by with_reducible assumption) (by rfl) (by walk_at "m_n") ?_; intro _)
    (refine x_ifNe (by with_reducible assumption) (by rfl) (by walk_at "m_n") ?_; intro _)
    (refine x_ifEq (by with_reducible assumption) (by rfl) (by walk_at "m_n") ?_; intro _)
    with_reducible refine wpAny_execs_cons ?_
    refine wpAny_Try_except ?_
    refine execs_asg ?_
    (refine r_callL2 (by with_reducible assumption) (by rfl) (by rfl) (by rfl) (by rfl) ?_; intro _ _)
    skip
    by_cases hle : N ≤ M
    · have e : sh 7 M N x = .L (M - N) := if_neg (Nat.not_lt.mpr hle)
      rw [e] at k
      refine ⟨Fm.keep (by with_reducible assumption), sub_c (by with_reducible assumption) (by rfl) (by assumption) (x := M) (by walk_at "m_has") (y := N) (by walk_at "m_has") (by walk_at "m_n") hle (hA.deeper.le (by walk_at "m_n")) ?_⟩
      intro r h₃ t₃ F₃
      (refine r_store (by with_reducible assumption) ?_; intro _ _ _)
      with_reducible refine wpAny_execs_nil ?_
      with_reducible refine wpAny_execs_nil ?_
      with_reducible refine wpAny_execs_cons ?_
      with_reducible refine wpAny_Return_some ?_
      refine r_loc (by with_reducible assumption) (by rfl) ?_
      skip
      rename_i F₄
      exact k _ _ _ _ (.L _ r) (F.backH hm₁ F₄ [(r, .kP (dg (M - N)), true)] (by walk_at "m_mem") (by walk_at "m_up") (by walk_at "m_sub") rfl)
    · have e : sh 7 M N x = .N := if_pos (Nat.not_le.mp hle)
      rw [e] at k
      refine ⟨Fm.keep (by with_reducible assumption), sub_r (by with_reducible assumption) (by rfl) (by assumption) (x := M) (by walk_at "m_has") (y := N) (by walk_at "m_has") (by walk_at "m_n") (by walk_at "m_n") (hA.deeper.le (by walk_at "m_n")) (Around.frames_deeper S₁.fr) (apart_stays _ L' (envOf cn cs L ca ccd :: outer)) (apart_fun (by with_reducible assumption) S₁ rfl) ?_⟩
      intro e a0 h₄ t₄ hfl us
      refine r_caught PySem.F.isExc_ValueError PySem.F.notTuple_ValueError (by rw [isSubtype_type]; kernel_rfl) Boot.«ValueError» (by with_reducible assumption) S₁ hfl us (by walk_at "m_mem") ?_
      intro h₅ F₅
      refine execs_asg ?_
      ((with_reducible refine x_str ?_); intro _ _)
      (refine r_store (by with_reducible assumption) ?_; intro _ _ _)
      with_reducible refine wpAny_execs_nil ?_
      with_reducible refine wpAny_execs_cons ?_
      with_reducible refine wpAny_Return_some ?_
      refine r_loc (by with_reducible assumption) (by rfl) ?_
      skip
      rename_i F₆
      exact k _ _ _ _ (.N _) (F.backH hm₁ F₆ [] (by walk_at "m_mem") (by walk_at "m_up") (by walk_at "m_sub") rfl)
  · refine execs_asg ?_
    with_reducible refine x_none ?_
    (refine r_store (by with_reducible assumption) ?_; intro _ _ _)
    (refine x_ifNe (by with_reducible assumption) (by rfl) (by walk_at "m_n") ?_; intro _)
    (refine x_ifNe (by with_reducible assumption) (by rfl) (by walk_at "m_n") ?_; intro _)
    (refine x_ifNe (by with_reducible assumption) (by rfl) (by walk_at "m_n") ?_; intro _)
    (refine x_ifNe (by with_reducible assumption) (by rfl) (by walk_at "m_n") ?_; intro _)
    (refine x_ifNe (by with_reducible assumption) (by rfl) (by walk_at "m_n") ?_; intro _)
    (refine x_ifNe (by with_reducible assumption) (by rfl) (by walk_at "m_n") ?_; intro _)
    (refine x_ifNe (by with_reducible assumption) (by rfl) (by walk_at "m_n") ?_; intro _)
    (refine x_ifNe (by with_reducible assumption) (by rfl) (by walk_at "m_n") ?_; intro _)
    with_reducible refine wpAny_execs_cons ?_
    refine wpAny_Try_except ?_
    refine execs_asg ?_
    (refine r_callL2 (by with_reducible assumption) (by rfl) (by rfl) (by rfl) (by rfl) ?_; intro _ _)
    skip
    by_cases hy0 : N = 0
    · have e : sh 8 M N x = .N := if_pos hy0
      rw [e] at k
      subst hy0
      refine ⟨Fm.keep (by with_reducible assumption), divmod_long_r (by with_reducible assumption) (by rfl) (by assumption) (x := M) (by walk_at "m_has") (by walk_at "m_has") (hA.deeper.le (by walk_at "m_n")) (Around.frames_deeper S₁.fr) (apart_stays _ L' (envOf cn cs L ca ccd :: outer)) (apart_fun (by with_reducible assumption) S₁ rfl) ?_⟩
      intro e a0 h₄ t₄ hfl us
      refine r_caught PySem.F.isExc_ZeroDivisionError PySem.F.notTuple_ZeroDivisionError (by rw [isSubtype_type]; kernel_rfl) Boot.«ZeroDivisionError» (by with_reducible assumption) S₁ hfl us (by walk_at "m_mem") ?_
      intro h₅ F₅
      refine execs_asg ?_
      ((with_reducible refine x_str ?_); intro _ _)
      (refine r_store (by with_reducible assumption) ?_; intro _ _ _)
      with_reducible refine wpAny_execs_nil ?_
      with_reducible refine wpAny_execs_cons ?_
      with_reducible refine wpAny_Return_some ?_
      refine r_loc (by with_reducible assumption) (by rfl) ?_
      skip
      rename_i F₆
      exact k _ _ _ _ (.N _) (F.backH hm₁ F₆ [] (by walk_at "m_mem") (by walk_at "m_up") (by walk_at "m_sub") rfl)
    · have e : sh 8 M N x = .T (M / N) (M % N) := if_neg hy0
      rw [e] at k
      refine ⟨Fm.keep (by with_reducible assumption), divmod_long_c (by with_reducible assumption) (by rfl) (by assumption) (x := M) (by walk_at "m_has") (y := N) (by walk_at "m_has") (by walk_at "m_n") (by walk_at "m_n") (by walk_at "m_n") (hA.deeper.le (by walk_at "m_n")) ?_⟩
      intro r q q' h₃ t₃ F₃
      (refine r_store (by with_reducible assumption) ?_; intro _ _ _)
      with_reducible refine wpAny_execs_nil ?_
      with_reducible refine wpAny_execs_nil ?_
      with_reducible refine wpAny_execs_cons ?_
      with_reducible refine wpAny_Return_some ?_
      refine r_loc (by with_reducible assumption) (by rfl) ?_
      skip
      rename_i F₄
      exact k _ _ _ _ (.T _ _ r q q') (F.backH hm₁ F₄ [(r, .kT [.ref q, .ref q'], true), (q, .kP (dg (M / N)), true), (q', .kP (dg (M % N)), true)] (by walk_at "m_mem") (by walk_at "m_up") (by walk_at "m_sub") rfl)
end
section
variable {mg mb : Str → Option Value} {prog : Program} {w : World} {A : Around} {E : Value → Shared → Prop} {b : Shared} {h₀ h : Heap} {L a a' f : Addr} {dl : Option (Addr × Kd)} {t : Nat}
  {m : List (Str × Value)} {led : List Ent} {Q : Value → Shared → Prop} {nm : Str} {ps : Arguments} {bd : List Stmt} {sc : Scope}

theorem due_val {M N op : Nat} (x : Int) (ho : op < 5) (hM : M < 100000000000000000000) (hN : N < 100000000000000000000) :
    ∃ v : Nat, sh op M N x = .L v ∧ ([(M : Int) + (N : Int), (M : Int) * (N : Int), (M : Int) * ((limbOf x : Nat) : Int), (M : Int) * 10000 ^ (x % 3).toNat, (M : Int) ^ (x % 4).toNat] : List Int).getD ((op : Int)).toNat 0 = (v : Int) ∧ v < 10000000000000000000000000000000000000000000000000000000000000 := by
  have hl := limbOf_lt x
  have hp : ∀ e : Nat, e ≤ 3 → 10000 ^ e ≤ 1000000000000 := fun e he => pow3_le (Nat.le_refl _) he
  rw [Int.toNat_natCast]
  rcases (le4 (Nat.le_of_lt_succ ho)) with rfl | rfl | rfl | rfl | rfl
  · exact ⟨M + N, rfl, rfl, by omega⟩
  · refine ⟨M * N, rfl, rfl, ?_⟩
    have := Nat.mul_le_mul (Nat.le_of_lt hM) (Nat.le_of_lt hN)
    omega
  · refine ⟨M * limbOf x, rfl, rfl, ?_⟩
    have := Nat.mul_le_mul (Nat.le_of_lt hM) (Nat.le_of_lt hl)
    omega
  · refine ⟨M * 10000 ^ (x % 3).toNat, rfl, ?_, ?_⟩
    · show (M : Int) * 10000 ^ (x % 3).toNat = _
      rw [Int.natCast_mul, Int.natCast_pow]; rfl
    · have := Nat.mul_le_mul (Nat.le_of_lt hM) (hp (x % 3).toNat (by walk_at "m_n"))
      omega
  · refine ⟨M ^ (x % 4).toNat, rfl, ?_, ?_⟩
    · show (M : Int) ^ (x % 4).toNat = _
      rw [Int.natCast_pow]
    · have h1 : M ^ (x % 4).toNat ≤ 100000000000000000000 ^ (x % 4).toNat := Nat.pow_le_pow_left (Nat.le_of_lt hM) _
      have h2 : 100000000000000000000 ^ (x % 4).toNat ≤ 100000000000000000000 ^ 3 := Nat.pow_le_pow_right (by decide) (by walk_at "m_n")
      omega

theorem law_due_c {M N op : Nat} {mi ni oi x : Int} {u₁ u₂ u₃ u₄ : Tok} (F : Fm (Wx mg mb) h₀ L dl h m led) (hd : defAt pw 25 = some (nm, ps, bd, sc)) (hf : FnRef h₀ f (nm, ps, bd, sc)) (hm : mi = (M : Int)) (hn : ni = (N : Int)) (ho : oi = (op : Int)) (ho8 : op ≤ 8)
    (hM : M < 100000000000000000000) (hN : N < 100000000000000000000) (hA : Rm 2 A)
    (k : ∀ r v es u u' h' t', AnsIs (sh op M N x) v es → Fm (Wx mg mb) h₀ L dl h' m ((r, .kT [v, .int (((nx op M N (sh op M N x)).1 : Nat) : Int) u, .int (((nx op M N (sh op M N x)).2 : Nat) : Int) u'], true) :: (es ++ led)) → Q (.ref r) (St b h' t')) :
    wpAny (model prog w) A (call (.ref f) [.int mi u₁, .int ni u₂, .int oi u₃, .int x u₄]) Q E (St b h t) := by
  cases hd
  subst hm; subst hn; subst ho
  refine r_enter F hf (hA.le (by walk_at "m_n")) [("m", .int (M : Int) u₁), ("n", .int (N : Int) u₂), ("op", .int (op : Int) u₃), ("x", .int x u₄)] [] trivial ?_
  intro L' h₁ t₁ code F₁
  by_cases hop : op < 5
  · obtain ⟨v, hs, hv, hvb⟩ := due_val x hop hM hN
    rw [hs] at k
    have hl := limbOf_lt x
    have hp0 := pw_pos (x % 3).toNat
    have hp1 : (10000 : Int) ^ (x % 3).toNat ≤ 10000 ^ 3 := pw_mono (by walk_at "m_n")
    have hp2 : (10000 : Int) ^ 3 = 1000000000000 := by decide
    rw [hp2] at hp1
    refine execs_ifC ?_
    refine r_loc (by with_reducible assumption) (by rfl) ?_
    ((with_reducible refine x_int ?_); intro _ _)
    with_reducible refine P.lt_int ?_
    with_reducible refine wpAny_truthy_bool ?_
    with_reducible refine ite_dec (fun _ => ?_) (fun q => absurd (by walk_at "m_n") q)
    refine execs_asg ?_
    with_reducible refine Tuple_ ?_
    refine args_cons ?_
    with_reducible refine wpAny_BinOp ?_
    refine r_loc (by with_reducible assumption) (by rfl) ?_
    refine r_loc (by with_reducible assumption) (by rfl) ?_
    ((with_reducible refine x_add ?_); intro _ _)
    refine args_cons ?_
    with_reducible refine wpAny_BinOp ?_
    refine r_loc (by with_reducible assumption) (by rfl) ?_
    refine r_loc (by with_reducible assumption) (by rfl) ?_
    ((with_reducible refine x_mul (by first | exact IntMulOk.of_right (intBits_le_64 (by walk_at "m_n") (by walk_at "m_n")) | exact IntMulOk.of_left (intBits_le_64 (by walk_at "m_n") (by walk_at "m_n")) | exact mul_fits2 (by walk_at "m_n") (by walk_at "m_n") (by walk_at "m_n") (by walk_at "m_n")) ?_); intro _ _)
    refine args_cons ?_
    with_reducible refine wpAny_BinOp ?_
    refine r_loc (by with_reducible assumption) (by rfl) ?_
    (refine r_callL1 (by with_reducible assumption) (by rfl) (by rfl) (by rfl) ?_; intro _ _)
    skip
    refine ⟨Fm.keep (by with_reducible assumption), law_limb_c (by with_reducible assumption) (by rfl) (by assumption) (hA.deeper.le (by walk_at "m_n")) ?_⟩
    intro ul h₂ t₂ F₂
    ((with_reducible refine x_mul (by first | exact IntMulOk.of_right (intBits_le_64 (by walk_at "m_n") (by walk_at "m_n")) | exact IntMulOk.of_left (intBits_le_64 (by walk_at "m_n") (by walk_at "m_n")) | exact mul_fits2 (by walk_at "m_n") (by walk_at "m_n") (by walk_at "m_n") (by walk_at "m_n")) ?_); intro _ _)
    refine args_cons ?_
    with_reducible refine wpAny_BinOp ?_
    refine r_loc (by with_reducible assumption) (by rfl) ?_
    with_reducible refine wpAny_BinOp ?_
    ((with_reducible refine x_int ?_); intro _ _)
    with_reducible refine wpAny_BinOp ?_
    refine r_loc (by with_reducible assumption) (by rfl) ?_
    ((with_reducible refine x_int ?_); intro _ _)
    ((with_reducible refine x_mod (by walk_at "m_n") ?_); intro _ _)
    ((with_reducible refine x_pow (by walk_at "m_n") (pow_fits (by walk_at "m_n") (by walk_at "m_n") (by walk_at "m_n") (by walk_at "m_n")) ?_); intro _ _)
    ((with_reducible refine x_mul (by first | exact IntMulOk.of_right (intBits_le_64 (by walk_at "m_n") (by walk_at "m_n")) | exact IntMulOk.of_left (intBits_le_64 (by walk_at "m_n") (by walk_at "m_n")) | exact mul_fits2 (by walk_at "m_n") (by walk_at "m_n") (by walk_at "m_n") (by walk_at "m_n")) ?_); intro _ _)
    refine args_cons ?_
    with_reducible refine wpAny_BinOp ?_
    refine r_loc (by with_reducible assumption) (by rfl) ?_
    with_reducible refine wpAny_BinOp ?_
    refine r_loc (by with_reducible assumption) (by rfl) ?_
    ((with_reducible refine x_int ?_); intro _ _)
    ((with_reducible refine x_mod (by walk_at "m_n") ?_); intro _ _)
    ((with_reducible refine x_pow (by walk_at "m_n") (pow_fits2 (by walk_at "m_n") (by walk_at "m_n") (by walk_at "m_n") (by walk_at "m_n")) ?_); intro _ _)
    with_reducible refine args_nil ?_
    (refine x_newTuple (by with_reducible assumption) (by simp) ?_; intro _ _ _)
    (refine r_store (by with_reducible assumption) ?_; intro _ _ _)
    with_reducible refine wpAny_execs_cons ?_
    with_reducible refine wpAny_Return_some ?_
    with_reducible refine Tuple_ ?_
    refine args_cons ?_
    (refine r_callN (by with_reducible assumption) (by rfl) (by rfl) ?_; intro _ _)
    refine args_cons ?_
    refine Subscript_ ?_
    refine r_loc (by with_reducible assumption) (by rfl) ?_
    refine r_loc (by with_reducible assumption) (by rfl) ?_
    skip
    refine x_itemT (ns := [(M : Int) + (N : Int), (M : Int) * (N : Int), (M : Int) * ((limbOf x : Nat) : Int), (M : Int) * 10000 ^ (x % 3).toNat, (M : Int) ^ (x % 4).toNat]) (Fm.has (by with_reducible assumption) (by walk_at "m_mem")) (.cons _ _ (.cons _ _ (.cons _ _ (.cons _ _ (.cons _ _ .nil))))) (by walk_at "m_n") (by simp only [List.length_cons, List.length_nil]; walk_at "m_n") (by walk_at "m_n") ?_
    rw [hv]
    intro u₅
    with_reducible refine args_nil ?_
    skip
    refine ⟨Fm.keep (by with_reducible assumption), law_limbs_c (by with_reducible assumption) (by rfl) (by assumption) rfl hvb (hA.deeper.le (by walk_at "m_n")) ?_⟩
    intro r h₃ t₃ F₃
    refine args_cons ?_
    refine Subscript_ ?_
    refine r_loc (by with_reducible assumption) (by rfl) ?_
    refine r_loc (by with_reducible assumption) (by rfl) ?_
    refine x_itemT (ns := [(M : Int) + (N : Int), (M : Int) * (N : Int), (M : Int) * ((limbOf x : Nat) : Int), (M : Int) * 10000 ^ (x % 3).toNat, (M : Int) ^ (x % 4).toNat]) (Fm.has (by with_reducible assumption) (by walk_at "m_mem")) (.cons _ _ (.cons _ _ (.cons _ _ (.cons _ _ (.cons _ _ .nil))))) (by walk_at "m_n") (by simp only [List.length_cons, List.length_nil]; walk_at "m_n") (by walk_at "m_n") ?_
    rw [hv]
    intro u₆
    refine args_loc (by with_reducible assumption) (by rfl) ?_
    with_reducible refine args_nil ?_
    (refine x_newTuple (by with_reducible assumption) (by simp) ?_; intro _ _ _)
    rename_i r' h₄ F₄
    exact k r' (.ref r) _ _ _ _ _ (.L v r) (F.backs F₄ [(r', .kT [.ref r, .int (v : Int) _, .int (M : Int) _], true), (r, .kP (dg v), true)] (by walk_at "m_sub") rfl)
  · rcases (le58 (Nat.not_lt.mp (by with_reducible assumption)) (by with_reducible assumption)) with rfl | rfl | rfl | rfl
    · obtain ⟨p, hp⟩ : ∃ p : Nat, p = 10000 ^ (x % 4).toNat := ⟨_, rfl⟩
      have hpi : (10000 : Int) ^ (x % 4).toNat = (p : Int) := by rw [hp, Int.natCast_pow]; rfl
      have hp0 : 0 < p := by rw [hp]; exact Nat.pow_pos (by decide)
      have hp1 : p ≤ 1000000000000 := by rw [hp]; exact pow3_le (Nat.le_refl _) (by walk_at "m_n")
      have hs : sh 5 M N x = .T (M % p) (M / p) := by rw [hp]; rfl
      rw [hs] at k
      have h1 := Nat.div_le_self M p
      have h2 := Nat.mod_le M p
      have e1 : (M : Int) % 10000 ^ (x % 4).toNat = ((M % p : Nat) : Int) := by rw [hpi]; rfl
      have e2 : (M : Int) / 10000 ^ (x % 4).toNat = ((M / p : Nat) : Int) := by rw [hpi]; rfl
      refine execs_ifC ?_
      refine r_loc (by with_reducible assumption) (by rfl) ?_
      ((with_reducible refine x_int ?_); intro _ _)
      with_reducible refine P.lt_int ?_
      with_reducible refine wpAny_truthy_bool ?_
      with_reducible refine ite_dec (fun q => absurd q (by walk_at "m_n")) (fun _ => ?_)
      with_reducible refine wpAny_execs_nil ?_
      (refine x_ifEq (by with_reducible assumption) (by rfl) (by walk_at "m_n") ?_; intro _)
      refine execs_asg ?_
      with_reducible refine wpAny_BinOp ?_
      ((with_reducible refine x_int ?_); intro _ _)
      with_reducible refine wpAny_BinOp ?_
      refine r_loc (by with_reducible assumption) (by rfl) ?_
      ((with_reducible refine x_int ?_); intro _ _)
      ((with_reducible refine x_mod (by walk_at "m_n") ?_); intro _ _)
      ((with_reducible refine x_pow (by walk_at "m_n") (pow_fits (by walk_at "m_n") (by walk_at "m_n") (by walk_at "m_n") (by walk_at "m_n")) ?_); intro _ _)
      (refine r_store (by with_reducible assumption) ?_; intro _ _ _)
      with_reducible refine wpAny_execs_cons ?_
      with_reducible refine wpAny_Return_some ?_
      with_reducible refine Tuple_ ?_
      refine args_cons ?_
      with_reducible refine Tuple_ ?_
      refine args_cons ?_
      (refine r_callN (by with_reducible assumption) (by rfl) (by rfl) ?_; intro _ _)
      refine args_cons ?_
      with_reducible refine wpAny_BinOp ?_
      refine r_loc (by with_reducible assumption) (by rfl) ?_
      refine r_loc (by with_reducible assumption) (by rfl) ?_
      ((with_reducible refine x_mod (by walk_at "m_n") ?_); intro _ _)
      with_reducible refine args_nil ?_
      skip
      refine ⟨Fm.keep (by with_reducible assumption), law_limbs_c (by with_reducible assumption) (by rfl) (by assumption) e1 (by walk_at "m_n") (hA.deeper.le (by walk_at "m_n")) ?_⟩
      intro r h₃ t₃ F₃
      refine args_cons ?_
      (refine r_callN (by with_reducible assumption) (by rfl) (by rfl) ?_; intro _ _)
      refine args_cons ?_
      with_reducible refine wpAny_BinOp ?_
      refine r_loc (by with_reducible assumption) (by rfl) ?_
      refine r_loc (by with_reducible assumption) (by rfl) ?_
      ((with_reducible refine x_div (by walk_at "m_n") (by walk_at "m_n") ?_); intro _ _)
      with_reducible refine args_nil ?_
      skip
      refine ⟨Fm.keep (by with_reducible assumption), law_limbs_c (by with_reducible assumption) (by rfl) (by assumption) e2 (by walk_at "m_n") (hA.deeper.le (by walk_at "m_n")) ?_⟩
      intro r₁ h₄ t₄ F₄
      with_reducible refine args_nil ?_
      (refine x_newTuple (by with_reducible assumption) (by simp) ?_; intro _ _ _)
      refine args_cons ?_
      with_reducible refine wpAny_BinOp ?_
      refine r_loc (by with_reducible assumption) (by rfl) ?_
      refine r_loc (by with_reducible assumption) (by rfl) ?_
      ((with_reducible refine x_div (by walk_at "m_n") (by walk_at "m_n") ?_); intro _ _)
      refine args_cons ?_
      with_reducible refine wpAny_BinOp ?_
      refine r_loc (by with_reducible assumption) (by rfl) ?_
      refine r_loc (by with_reducible assumption) (by rfl) ?_
      ((with_reducible refine x_mod (by walk_at "m_n") ?_); intro _ _)
      with_reducible refine args_nil ?_
      (refine x_newTuple (by with_reducible assumption) (by simp) ?_; intro _ _ _)
      rename_i _ _ r₂ _ _ _ _ _ r' h₅ F₅
      rw [e1, e2] at F₅
      exact k r' _ _ _ _ _ _ (.T (M % p) (M / p) _ r r₁) (F.backs F₅ [(r', .kT [.ref _, .int ((M / p : Nat) : Int) _, .int ((M % p : Nat) : Int) _], true), (_, .kT [.ref r, .ref r₁], true), (r, .kP (dg (M % p)), true), (r₁, .kP (dg (M / p)), true)] (by walk_at "m_sub") rfl)
    · obtain ⟨p, hpi⟩ := Int.eq_ofNat_of_zero_le (show 0 ≤ 1 + x % 9999 by walk_at "m_n")
      have hp0 : 0 < p := by walk_at "m_n"
      have hs : sh 6 M N x = .P (M / p) (M % p) := by show Sh.P _ _ = _; rw [show (1 + x % 9999).toNat = p by walk_at "m_n"]
      rw [hs] at k
      have h1 := Nat.div_le_self M p
      have h2 := Nat.mod_le M p
      have e1 : (M : Int) % (1 + x % 9999) = ((M % p : Nat) : Int) := by rw [hpi]; rfl
      have e2 : (M : Int) / (1 + x % 9999) = ((M / p : Nat) : Int) := by rw [hpi]; rfl
      refine execs_ifC ?_
      refine r_loc (by with_reducible assumption) (by rfl) ?_
      ((with_reducible refine x_int ?_); intro _ _)
      with_reducible refine P.lt_int ?_
      with_reducible refine wpAny_truthy_bool ?_
      with_reducible refine ite_dec (fun q => absurd q (by walk_at "m_n")) (fun _ => ?_)
      with_reducible refine wpAny_execs_nil ?_
      (refine x_ifNe (by with_reducible assumption) (by rfl) (by walk_at "m_n") ?_; intro _)
      (refine x_ifEq (by with_reducible assumption) (by rfl) (by walk_at "m_n") ?_; intro _)
      refine execs_asg ?_
      with_reducible refine wpAny_BinOp ?_
      ((with_reducible refine x_int ?_); intro _ _)
      with_reducible refine wpAny_BinOp ?_
      refine r_loc (by with_reducible assumption) (by rfl) ?_
      ((with_reducible refine x_int ?_); intro _ _)
      ((with_reducible refine x_mod (by walk_at "m_n") ?_); intro _ _)
      ((with_reducible refine x_add ?_); intro _ _)
      (refine r_store (by with_reducible assumption) ?_; intro _ _ _)
      with_reducible refine wpAny_execs_cons ?_
      with_reducible refine wpAny_Return_some ?_
      with_reducible refine Tuple_ ?_
      refine args_cons ?_
      with_reducible refine Tuple_ ?_
      refine args_cons ?_
      (refine r_callN (by with_reducible assumption) (by rfl) (by rfl) ?_; intro _ _)
      refine args_cons ?_
      with_reducible refine wpAny_BinOp ?_
      refine r_loc (by with_reducible assumption) (by rfl) ?_
      refine r_loc (by with_reducible assumption) (by rfl) ?_
      ((with_reducible refine x_div (by walk_at "m_n") (by walk_at "m_n") ?_); intro _ _)
      with_reducible refine args_nil ?_
      skip
      refine ⟨Fm.keep (by with_reducible assumption), law_limbs_c (by with_reducible assumption) (by rfl) (by assumption) e2 (by walk_at "m_n") (hA.deeper.le (by walk_at "m_n")) ?_⟩
      intro r h₃ t₃ F₃
      refine args_cons ?_
      with_reducible refine wpAny_BinOp ?_
      refine r_loc (by with_reducible assumption) (by rfl) ?_
      refine r_loc (by with_reducible assumption) (by rfl) ?_
      ((with_reducible refine x_mod (by walk_at "m_n") ?_); intro _ _)
      with_reducible refine args_nil ?_
      (refine x_newTuple (by with_reducible assumption) (by simp) ?_; intro _ _ _)
      refine args_cons ?_
      with_reducible refine wpAny_BinOp ?_
      refine r_loc (by with_reducible assumption) (by rfl) ?_
      refine r_loc (by with_reducible assumption) (by rfl) ?_
      ((with_reducible refine x_div (by walk_at "m_n") (by walk_at "m_n") ?_); intro _ _)
      refine args_cons ?_
      with_reducible refine wpAny_BinOp ?_
      refine r_loc (by with_reducible assumption) (by rfl) ?_
      refine r_loc (by with_reducible assumption) (by rfl) ?_
      ((with_reducible refine x_mod (by walk_at "m_n") ?_); intro _ _)
      with_reducible refine args_nil ?_
      (refine x_newTuple (by with_reducible assumption) (by simp) ?_; intro _ _ _)
      rename_i r' h₅ F₅
      rw [e1, e2] at F₅
      exact k r' _ _ _ _ _ _ (.P (M / p) (M % p) _ r _) (F.backs F₅ [(r', .kT [.ref _, .int ((M / p : Nat) : Int) _, .int ((M % p : Nat) : Int) _], true), (_, .kT [.ref r, .int ((M % p : Nat) : Int) _], true), (r, .kP (dg (M / p)), true)] (by walk_at "m_sub") rfl)
    · refine execs_ifC ?_
      refine r_loc (by with_reducible assumption) (by rfl) ?_
      ((with_reducible refine x_int ?_); intro _ _)
      with_reducible refine P.lt_int ?_
      with_reducible refine wpAny_truthy_bool ?_
      with_reducible refine ite_dec (fun q => absurd q (by walk_at "m_n")) (fun _ => ?_)
      with_reducible refine wpAny_execs_nil ?_
      (refine x_ifNe (by with_reducible assumption) (by rfl) (by walk_at "m_n") ?_; intro _)
      (refine x_ifNe (by with_reducible assumption) (by rfl) (by walk_at "m_n") ?_; intro _)
      (refine x_ifEq (by with_reducible assumption) (by rfl) (by walk_at "m_n") ?_; intro _)
      refine execs_ifC ?_
      refine r_loc (by with_reducible assumption) (by rfl) ?_
      refine r_loc (by with_reducible assumption) (by rfl) ?_
      with_reducible refine P.lt_int ?_
      with_reducible refine wpAny_truthy_bool ?_
      refine ite_dec (fun q1 => ?_) (fun q1 => ?_)
      · have hs : sh 7 M N x = .N := if_pos (by walk_at "m_n")
        rw [hs] at k
        with_reducible refine wpAny_execs_cons ?_
        with_reducible refine wpAny_Return_some ?_
        with_reducible refine Tuple_ ?_
        refine args_cons ?_
        ((with_reducible refine x_str ?_); intro _ _)
        refine args_loc (by with_reducible assumption) (by rfl) ?_
        refine args_loc (by with_reducible assumption) (by rfl) ?_
        with_reducible refine args_nil ?_
        (refine x_newTuple (by with_reducible assumption) (by simp) ?_; intro _ _ _)
        skip
        rename_i r' h₅ F₅
        exact k r' _ _ _ _ _ _ (.N _) (F.backs F₅ [(r', .kT [.str "refused" _, .int (M : Int) _, .int (N : Int) _], true)] (by walk_at "m_sub") rfl)
      · have hs : sh 7 M N x = .L (M - N) := if_neg (by walk_at "m_n")
        rw [hs] at k
        have e1 : (M : Int) - (N : Int) = ((M - N : Nat) : Int) := by walk_at "m_n"
        with_reducible refine wpAny_execs_nil ?_
        with_reducible refine wpAny_execs_cons ?_
        with_reducible refine wpAny_Return_some ?_
        with_reducible refine Tuple_ ?_
        refine args_cons ?_
        (refine r_callN (by with_reducible assumption) (by rfl) (by rfl) ?_; intro _ _)
        refine args_cons ?_
        with_reducible refine wpAny_BinOp ?_
        refine r_loc (by with_reducible assumption) (by rfl) ?_
        refine r_loc (by with_reducible assumption) (by rfl) ?_
        ((with_reducible refine x_sub ?_); intro _ _)
        with_reducible refine args_nil ?_
        skip
        refine ⟨Fm.keep (by with_reducible assumption), law_limbs_c (by with_reducible assumption) (by rfl) (by assumption) e1 (by walk_at "m_n") (hA.deeper.le (by walk_at "m_n")) ?_⟩
        intro r h₃ t₃ F₃
        refine args_cons ?_
        with_reducible refine wpAny_BinOp ?_
        refine r_loc (by with_reducible assumption) (by rfl) ?_
        refine r_loc (by with_reducible assumption) (by rfl) ?_
        ((with_reducible refine x_sub ?_); intro _ _)
        refine args_loc (by with_reducible assumption) (by rfl) ?_
        with_reducible refine args_nil ?_
        (refine x_newTuple (by with_reducible assumption) (by simp) ?_; intro _ _ _)
        rename_i r' h₅ F₅
        rw [e1] at F₅
        exact k r' _ _ _ _ _ _ (.L (M - N) r) (F.backs F₅ [(r', .kT [.ref r, .int ((M - N : Nat) : Int) _, .int (M : Int) _], true), (r, .kP (dg (M - N)), true)] (by walk_at "m_sub") rfl)
    · refine execs_ifC ?_
      refine r_loc (by with_reducible assumption) (by rfl) ?_
      ((with_reducible refine x_int ?_); intro _ _)
      with_reducible refine P.lt_int ?_
      with_reducible refine wpAny_truthy_bool ?_
      with_reducible refine ite_dec (fun q => absurd q (by walk_at "m_n")) (fun _ => ?_)
      with_reducible refine wpAny_execs_nil ?_
      (refine x_ifNe (by with_reducible assumption) (by rfl) (by walk_at "m_n") ?_; intro _)
      (refine x_ifNe (by with_reducible assumption) (by rfl) (by walk_at "m_n") ?_; intro _)
      (refine x_ifNe (by with_reducible assumption) (by rfl) (by walk_at "m_n") ?_; intro _)
      refine execs_ifC ?_
      refine r_loc (by with_reducible assumption) (by rfl) ?_
      ((with_reducible refine x_int ?_); intro _ _)
      with_reducible refine P.eq_int ?_
      with_reducible refine wpAny_truthy_bool ?_
      refine ite_beq (fun q1 => ?_) (fun q1 => ?_)
      · have hs : sh 8 M N x = .N := if_pos (by walk_at "m_n")
        rw [hs] at k
        with_reducible refine wpAny_execs_cons ?_
        with_reducible refine wpAny_Return_some ?_
        with_reducible refine Tuple_ ?_
        refine args_cons ?_
        ((with_reducible refine x_str ?_); intro _ _)
        refine args_loc (by with_reducible assumption) (by rfl) ?_
        refine args_loc (by with_reducible assumption) (by rfl) ?_
        with_reducible refine args_nil ?_
        (refine x_newTuple (by with_reducible assumption) (by simp) ?_; intro _ _ _)
        skip
        rename_i r' h₅ F₅
        exact k r' _ _ _ _ _ _ (.N _) (F.backs F₅ [(r', .kT [.str "refused" _, .int (M : Int) _, .int (N : Int) _], true)] (by walk_at "m_sub") rfl)
      · have hs : sh 8 M N x = .T (M / N) (M % N) := if_neg (by walk_at "m_n")
        rw [hs] at k
        have h1 := Nat.div_le_self M N
        have h2 := Nat.mod_le M N
        with_reducible refine wpAny_execs_nil ?_
        with_reducible refine wpAny_execs_cons ?_
        with_reducible refine wpAny_Return_some ?_
        with_reducible refine Tuple_ ?_
        refine args_cons ?_
        with_reducible refine Tuple_ ?_
        refine args_cons ?_
        (refine r_callN (by with_reducible assumption) (by rfl) (by rfl) ?_; intro _ _)
        refine args_cons ?_
        with_reducible refine wpAny_BinOp ?_
        refine r_loc (by with_reducible assumption) (by rfl) ?_
        refine r_loc (by with_reducible assumption) (by rfl) ?_
        ((with_reducible refine x_div (by walk_at "m_n") (by walk_at "m_n") ?_); intro _ _)
        with_reducible refine args_nil ?_
        skip
        refine ⟨Fm.keep (by with_reducible assumption), law_limbs_c (by with_reducible assumption) (by rfl) (by assumption) (n := M / N) rfl (by walk_at "m_n") (hA.deeper.le (by walk_at "m_n")) ?_⟩
        intro r h₃ t₃ F₃
        refine args_cons ?_
        (refine r_callN (by with_reducible assumption) (by rfl) (by rfl) ?_; intro _ _)
        refine args_cons ?_
        with_reducible refine wpAny_BinOp ?_
        refine r_loc (by with_reducible assumption) (by rfl) ?_
        refine r_loc (by with_reducible assumption) (by rfl) ?_
        ((with_reducible refine x_mod (by walk_at "m_n") ?_); intro _ _)
        with_reducible refine args_nil ?_
        skip
        refine ⟨Fm.keep (by with_reducible assumption), law_limbs_c (by with_reducible assumption) (by rfl) (by assumption) (n := M % N) rfl (by walk_at "m_n") (hA.deeper.le (by walk_at "m_n")) ?_⟩
        intro r₁ h₄ t₄ F₄
        with_reducible refine args_nil ?_
        (refine x_newTuple (by with_reducible assumption) (by simp) ?_; intro _ _ _)
        refine args_cons ?_
        with_reducible refine wpAny_BinOp ?_
        refine r_loc (by with_reducible assumption) (by rfl) ?_
        refine r_loc (by with_reducible assumption) (by rfl) ?_
        ((with_reducible refine x_div (by walk_at "m_n") (by walk_at "m_n") ?_); intro _ _)
        refine args_cons ?_
        with_reducible refine wpAny_BinOp ?_
        refine r_loc (by with_reducible assumption) (by rfl) ?_
        refine r_loc (by with_reducible assumption) (by rfl) ?_
        ((with_reducible refine x_mod (by walk_at "m_n") ?_); intro _ _)
        with_reducible refine args_nil ?_
        (refine x_newTuple (by with_reducible assumption) (by simp) ?_; intro _ _ _)
        rename_i r' h₅ F₅
        rw [show (M : Int) / (N : Int) = ((M / N : Nat) : Int) from rfl, show (M : Int) % (N : Int) = ((M % N : Nat) : Int) from rfl] at F₅
        exact k r' _ _ _ _ _ _ (.T (M / N) (M % N) _ r r₁) (F.backs F₅ [(r', .kT [.ref _, .int ((M / N : Nat) : Int) _, .int ((M % N : Nat) : Int) _], true), (_, .kT [.ref r, .ref r₁], true), (r, .kP (dg (M / N)), true), (r₁, .kP (dg (M % N)), true)] (by walk_at "m_sub") rfl)

/-- the registers behind an answer -/
theorem law_next_c {M N op : Nat} {s : Sh} {v : Value} {es : List Ent} {oi : Int} {u : Tok} (F : Fm (Wx mg mb) h₀ L dl h m led) (hd : defAt pw 26 = some (nm, ps, bd, sc)) (hf : FnRef h₀ f (nm, ps, bd, sc)) (ho : oi = (op : Int)) (hs : AnsIs s v es) (hop : ∀ x y, (s = .T x y → op = 5 ∨ op = 8) ∧ (s = .P x y → op = 6 ∧ y < 10000)) (hol : ∀ x, s = .L x → op ≠ 5 ∧ op ≠ 6 ∧ op ≠ 8)
    (hx : (a, .kP (dg M), true) ∈ led) (hy : (a', .kP (dg N), true) ∈ led) (hes : ∀ q ∈ es, q ∈ led) (hA : Rm 2 A)
    (k : ∀ r r₁ r₂ h' t', Fm (Wx mg mb) h₀ L dl h' m ((r, .kT [.ref r₁, .ref r₂], true) :: (r₁, .kP (dg (nx op M N s).1), true) :: (r₂, .kP (dg (nx op M N s).2), true) :: led) → Q (.ref r) (St b h' t')) :
    wpAny (model prog w) A (call (.ref f) [.ref a, .ref a', v, .int oi u]) Q E (St b h t) := by
  cases hd
  subst ho
  have hu := hA.deeper (env := default)
  cases hs with
  | N ut =>
    refine r_enter F hf (hA.le (by walk_at "m_n")) [("a", .ref a), ("b", .ref a'), ("got", .str "refused" ut), ("op", .int (op : Int) u)] [] trivial ?_
    intro L' h₁ t₁ code F₁
    refine execs_ifC ?_
    refine r_loc (by with_reducible assumption) (by rfl) ?_
    ((with_reducible refine x_str ?_); intro _ _)
    refine x_eqD (Rd.str _ _) (Rd.str _ _) ⟨ref_lay, by simp [PyData.depth]⟩ ⟨ref_lay, by simp [PyData.depth]⟩ hA.deeper.u ?_
    rw [SeqAt.eqv_refl _ ref_lay]
    with_reducible refine wpAny_truthy_bool ?_
    with_reducible refine ite_t ?_
    with_reducible refine wpAny_execs_cons ?_
    with_reducible refine wpAny_Return_some ?_
    with_reducible refine Tuple_ ?_
    refine args_loc (by with_reducible assumption) (by rfl) ?_
    refine args_loc (by with_reducible assumption) (by rfl) ?_
    with_reducible refine args_nil ?_
    (refine x_newTuple (by with_reducible assumption) (by simp) ?_; intro _ _ _)
    skip
    rename_i r' h₅ F₅
    have G := F.backs F₅ [(r', .kT [.ref a, .ref a'], true)] (by walk_at "m_sub") rfl
    have G₁ := (G.also (.tail _ hy) (fun _ x => x)).also (.tail _ (.tail _ hx)) (fun _ x => x)
    exact k r' a a' _ _ (G₁.wkl (sub_cons (.tail _ (.tail _ (.head _))) (sub_cons (.head _) (sub_cons (.tail _ (.head _)) (fun _ q => .tail _ (.tail _ (.tail _ q)))))))
  | L x₁ g =>
    obtain ⟨o5, o6, o8⟩ := hol x₁ rfl
    have hg := F.has (hes _ (.head _))
    refine r_enter F hf (hA.le (by walk_at "m_n")) [("a", .ref a), ("b", .ref a'), ("got", .ref g), ("op", .int (op : Int) u)] [(g, .kP (dg x₁), false)] ⟨⟨hg, rfl⟩, trivial⟩ ?_
    intro L' h₁ t₁ code F₁
    refine execs_ifC ?_
    refine r_loc (by with_reducible assumption) (by rfl) ?_
    ((with_reducible refine x_str ?_); intro _ _)
    refine x_eqD (Rd.il (ns := dg x₁) (by walk_at "m_has")) (Rd.str _ _) ⟨lay_ints _, Nat.le_trans (depth_ints _) (by decide)⟩ ⟨ref_lay, by simp [PyData.depth]⟩ hA.deeper.u ?_
    rw [show PyData.eqv (lint (dg x₁)) (.str "refused") = false by simp [PyData.eqv]]
    with_reducible refine wpAny_truthy_bool ?_
    with_reducible refine ite_f ?_
    with_reducible refine wpAny_execs_nil ?_
    (refine x_ifNe (by with_reducible assumption) (by rfl) (by walk_at "m_n") ?_; intro _)
    (refine x_ifNe (by with_reducible assumption) (by rfl) (by walk_at "m_n") ?_; intro _)
    (refine x_ifNe (by with_reducible assumption) (by rfl) (by walk_at "m_n") ?_; intro _)
    with_reducible refine wpAny_execs_cons ?_
    with_reducible refine wpAny_Return_some ?_
    with_reducible refine Tuple_ ?_
    refine args_loc (by with_reducible assumption) (by rfl) ?_
    refine args_loc (by with_reducible assumption) (by rfl) ?_
    with_reducible refine args_nil ?_
    (refine x_newTuple (by with_reducible assumption) (by simp) ?_; intro _ _ _)
    skip
    rename_i r' h₅ F₅
    have G := F.backs F₅ [(r', .kT [.ref g, .ref a], true)] (by walk_at "m_sub") rfl
    have G₁ := (G.also (.tail _ hx) (fun _ x => x)).also (.tail _ (.tail _ (hes _ (.head _)))) (fun _ x => x)
    exact k r' g a _ _ (G₁.wkl (sub_cons (.tail _ (.tail _ (.head _))) (sub_cons (.head _) (sub_cons (.tail _ (.head _)) (fun _ q => .tail _ (.tail _ (.tail _ q)))))))
  | P x₁ y₁ g q uq =>
    obtain ⟨rfl, hy1⟩ := (hop x₁ y₁).2 rfl
    have hg := F.has (hes _ (.head _))
    have hq := F.has (hes _ (.tail _ (.head _)))
    refine r_enter F hf (hA.le (by walk_at "m_n")) [("a", .ref a), ("b", .ref a'), ("got", .ref g), ("op", .int ((6 : Nat) : Int) u)] [(g, .kT [.ref q, .int (y₁ : Int) uq], false), (q, .kP (dg x₁), false)] ⟨⟨hg, rfl⟩, ⟨hq, rfl⟩, trivial⟩ ?_
    intro L' h₁ t₁ code F₁
    refine execs_ifC ?_
    refine r_loc (by with_reducible assumption) (by rfl) ?_
    ((with_reducible refine x_str ?_); intro _ _)
    refine x_eqD (d := .tuple [lint (dg x₁), .int (y₁ : Int)]) (Rd.tup (Fm.has (by with_reducible assumption) (.head _)) (.cons (Rd.il (by walk_at "m_has")) (.cons (Rd.int _ _) .nil))) (Rd.str _ _) (Sh.lay (.P x₁ y₁)) ⟨ref_lay, by simp [PyData.depth]⟩ hA.deeper.u ?_
    rw [show PyData.eqv (.tuple [lint (dg x₁), .int (y₁ : Int)]) (.str "refused") = false by simp [PyData.eqv]]
    with_reducible refine wpAny_truthy_bool ?_
    with_reducible refine ite_f ?_
    with_reducible refine wpAny_execs_nil ?_
    (refine x_ifNe (by with_reducible assumption) (by rfl) (by walk_at "m_n") ?_; intro _)
    (refine x_ifEq (by with_reducible assumption) (by rfl) (by walk_at "m_n") ?_; intro _)
    with_reducible refine wpAny_execs_cons ?_
    with_reducible refine wpAny_Return_some ?_
    with_reducible refine Tuple_ ?_
    refine args_cons ?_
    refine Subscript_ ?_
    refine r_loc (by with_reducible assumption) (by rfl) ?_
    ((with_reducible refine x_int ?_); intro _ _)
    refine x_itemW (by walk_at "m_has") (by rfl) (by rfl) (by decide) (by decide) ?_
    refine args_cons ?_
    (refine r_callN (by with_reducible assumption) (by rfl) (by rfl) ?_; intro _ _)
    refine args_cons ?_
    refine Subscript_ ?_
    refine r_loc (by with_reducible assumption) (by rfl) ?_
    ((with_reducible refine x_int ?_); intro _ _)
    refine x_itemW (by walk_at "m_has") (by rfl) (by rfl) (by decide) (by decide) ?_
    with_reducible refine args_nil ?_
    skip
    refine ⟨Fm.keep (by with_reducible assumption), from_int_c (by with_reducible assumption) (by rfl) (by assumption) (by walk_at "m_n") (Nat.le_trans (dg_len_le (k := 1) (by rw [Int.toNat_natCast, Int.pow_one]; walk_at "m_n")) (by decide)) (hA.deeper.le (by walk_at "m_n")) ?_⟩
    intro r₂ h₂ t₂ F₂
    rw [Int.toNat_natCast] at F₂
    with_reducible refine args_nil ?_
    (refine x_newTuple (by with_reducible assumption) (by simp) ?_; intro _ _ _)
    rename_i r' h₅ F₅
    have G := F.backs F₅ [(r', .kT [.ref q, .ref r₂], true), (r₂, .kP (dg y₁), true)] (by walk_at "m_sub") rfl
    have G₁ := G.also (.tail _ (.tail _ (hes _ (.tail _ (.head _))))) (fun _ x => x)
    exact k r' q r₂ _ _ (G₁.wkl (sub_cons (.tail _ (.head _)) (sub_cons (.head _) (sub_cons (.tail _ (.tail _ (.head _))) (fun _ q => .tail _ (.tail _ (.tail _ q)))))))
  | T x₁ y₁ g q q' =>
    have hg := F.has (hes _ (.head _))
    have hq := F.has (hes _ (.tail _ (.head _)))
    have hq' := F.has (hes _ (.tail _ (.tail _ (.head _))))
    refine r_enter F hf (hA.le (by walk_at "m_n")) [("a", .ref a), ("b", .ref a'), ("got", .ref g), ("op", .int (op : Int) u)] [(g, .kT [.ref q, .ref q'], false), (q, .kP (dg x₁), false), (q', .kP (dg y₁), false)] ⟨⟨hg, rfl⟩, ⟨hq, rfl⟩, ⟨hq', rfl⟩, trivial⟩ ?_
    intro L' h₁ t₁ code F₁
    refine execs_ifC ?_
    refine r_loc (by with_reducible assumption) (by rfl) ?_
    ((with_reducible refine x_str ?_); intro _ _)
    refine x_eqD (d := .tuple [lint (dg x₁), lint (dg y₁)]) (Rd.tup (Fm.has (by with_reducible assumption) (.head _)) (.cons (Rd.il (by walk_at "m_has")) (.cons (Rd.il (by walk_at "m_has")) .nil))) (Rd.str _ _) (Sh.lay (.T x₁ y₁)) ⟨ref_lay, by simp [PyData.depth]⟩ hA.deeper.u ?_
    rw [show PyData.eqv (.tuple [lint (dg x₁), lint (dg y₁)]) (.str "refused") = false by simp [PyData.eqv]]
    rcases (hop x₁ y₁).1 rfl with rfl | rfl
    · with_reducible refine wpAny_truthy_bool ?_
      with_reducible refine ite_f ?_
      with_reducible refine wpAny_execs_nil ?_
      (refine x_ifEq (by with_reducible assumption) (by rfl) (by walk_at "m_n") ?_; intro _)
      with_reducible refine wpAny_execs_cons ?_
      with_reducible refine wpAny_Return_some ?_
      with_reducible refine Tuple_ ?_
      refine args_cons ?_
      refine Subscript_ ?_
      refine r_loc (by with_reducible assumption) (by rfl) ?_
      ((with_reducible refine x_int ?_); intro _ _)
      refine x_itemW (by walk_at "m_has") (by rfl) (by rfl) (by decide) (by decide) ?_
      refine args_cons ?_
      refine Subscript_ ?_
      refine r_loc (by with_reducible assumption) (by rfl) ?_
      ((with_reducible refine x_int ?_); intro _ _)
      refine x_itemW (by walk_at "m_has") (by rfl) (by rfl) (by decide) (by decide) ?_
      with_reducible refine args_nil ?_
      (refine x_newTuple (by with_reducible assumption) (by simp) ?_; intro _ _ _)
      skip
      rename_i r' h₅ F₅
      have G := F.backs F₅ [(r', .kT [.ref q', .ref q], true)] (by walk_at "m_sub") rfl
      have G₁ := (G.also (.tail _ (hes _ (.tail _ (.head _)))) (fun _ x => x)).also (.tail _ (.tail _ (hes _ (.tail _ (.tail _ (.head _)))))) (fun _ x => x)
      exact k r' q' q _ _ (G₁.wkl (sub_cons (.tail _ (.tail _ (.head _))) (sub_cons (.head _) (sub_cons (.tail _ (.head _)) (fun _ q => .tail _ (.tail _ (.tail _ q)))))))
    · with_reducible refine wpAny_truthy_bool ?_
      with_reducible refine ite_f ?_
      with_reducible refine wpAny_execs_nil ?_
      (refine x_ifNe (by with_reducible assumption) (by rfl) (by walk_at "m_n") ?_; intro _)
      (refine x_ifNe (by with_reducible assumption) (by rfl) (by walk_at "m_n") ?_; intro _)
      (refine x_ifEq (by with_reducible assumption) (by rfl) (by walk_at "m_n") ?_; intro _)
      with_reducible refine wpAny_execs_cons ?_
      with_reducible refine wpAny_Return_some ?_
      with_reducible refine Tuple_ ?_
      refine args_cons ?_
      refine Subscript_ ?_
      refine r_loc (by with_reducible assumption) (by rfl) ?_
      ((with_reducible refine x_int ?_); intro _ _)
      refine x_itemW (by walk_at "m_has") (by rfl) (by rfl) (by decide) (by decide) ?_
      refine args_cons ?_
      refine Subscript_ ?_
      refine r_loc (by with_reducible assumption) (by rfl) ?_
      ((with_reducible refine x_int ?_); intro _ _)
      refine x_itemW (by walk_at "m_has") (by rfl) (by rfl) (by decide) (by decide) ?_
      with_reducible refine args_nil ?_
      (refine x_newTuple (by with_reducible assumption) (by simp) ?_; intro _ _ _)
      skip
      rename_i r' h₅ F₅
      have G := F.backs F₅ [(r', .kT [.ref q, .ref q'], true)] (by walk_at "m_sub") rfl
      have G₁ := (G.also (.tail _ (hes _ (.tail _ (.tail _ (.head _))))) (fun _ x => x)).also (.tail _ (.tail _ (hes _ (.tail _ (.head _))))) (fun _ x => x)
      exact k r' q q' _ _ (G₁.wkl (sub_cons (.tail _ (.tail _ (.head _))) (sub_cons (.head _) (sub_cons (.tail _ (.head _)) (fun _ q => .tail _ (.tail _ (.tail _ q)))))))
end
section
variable {mg mb : Str → Option Value} {prog : Program} {w : World} {A : Around} {E : Value → Shared → Prop} {b : Shared} {h₀ h : Heap} {L a a' f : Addr} {dl : Option (Addr × Kd)} {t : Nat}
  {m : List (Str × Value)} {led : List Ent} {Q : Value → Shared → Prop} {nm : Str} {ps : Arguments} {bd : List Stmt} {sc : Scope}

theorem holds_tail {M N : Nat} {cd : Value} {uw uo ut uv um un : Tok} {Q : Flow → Shared → Prop}
    (F : Fm (Wx mg mb) h₀ L none h [("want", .int (cmpI M N) uw), ("order", .int (cmpI M N) uo), ("text", .str (Sx (ts M)) ut), ("value", .int (M : Int) uv), ("a", .ref a), ("b", .ref a'), ("m", .int (M : Int) um), ("n", .int (N : Int) un)] [(a, .kI (dg M), false), (a', .kI (dg N), false)])
    (hd : defAt pw 27 = some (nm, ps, bd, sc)) (hM : M < 100000000000000000000) (hN : N < 100000000000000000000) (hA : Rm 1 A)
    (k : ∀ h' t', Stays h₀ h' → Q (.ret (.bool true)) (St b h' t')) :
    wpAny (model prog w) A (execs (restOf 7 bd) (envOf nm sc L f cd)) Q E (St b h t) := by
  cases hd
  have hh := hA.hd
  have lM : (dg M).length ≤ 5 := dg_len_le (by rw [show (10000 : Int) ^ 5 = 100000000000000000000 by decide]; walk_at "m_n")
  have lN : (dg N).length ≤ 5 := dg_len_le (by rw [show (10000 : Int) ^ 5 = 100000000000000000000 by decide]; walk_at "m_n")
  show wpAny _ _ (execs (List.drop 7 _) _) _ _ _
  simp only [List.drop]
  refine execs_ifC ?_
  refine r_loc (by with_reducible assumption) (by rfl) ?_
  refine r_loc (by with_reducible assumption) (by rfl) ?_
  with_reducible refine P.ne_int ?_
  with_reducible refine wpAny_truthy_bool ?_
  with_reducible refine ite_bne (fun q => absurd (by walk_at "m_n") q) (fun _ => ?_)
  with_reducible refine wpAny_execs_nil ?_
  refine execs_ifC ?_
  refine r_loc (by with_reducible assumption) (by rfl) ?_
  refine r_loc (by with_reducible assumption) (by rfl) ?_
  with_reducible refine P.ne_int ?_
  with_reducible refine wpAny_truthy_bool ?_
  with_reducible refine ite_bne (fun q => absurd (by walk_at "m_n") q) (fun _ => ?_)
  with_reducible refine wpAny_execs_nil ?_
  refine execs_ifC ?_
  refine r_loc (by with_reducible assumption) (by rfl) ?_
  refine r_tcall bb_str (by with_reducible assumption) (by walk_at "m_mem") ?_
  refine args_loc (by with_reducible assumption) (by rfl) ?_
  with_reducible refine args_nil ?_
  refine x_strI rfl (by walk_at "m_n") ?_
  intro u₂ t₂
  skip
  refine x_neS rfl ?_
  with_reducible refine wpAny_truthy_bool ?_
  with_reducible refine ite_f ?_
  with_reducible refine wpAny_execs_nil ?_
  refine execs_ifC ?_
  refine r_loc (by with_reducible assumption) (by rfl) ?_
  (refine r_callL1 (by with_reducible assumption) (by rfl) (by rfl) (by rfl) ?_; intro _ _)
  skip
  refine ⟨Fm.keep (by with_reducible assumption), law_limbs_c (by with_reducible assumption) (by rfl) (by assumption) rfl (by walk_at "m_n") hA ?_⟩
  intro r₁ h₁ t₁ F₁
  skip
  refine x_neQ (ns := dg M) (by walk_at "m_has") (by walk_at "m_has") hA.u ?_
  with_reducible refine wpAny_truthy_bool ?_
  with_reducible refine ite_f ?_
  with_reducible refine wpAny_execs_nil ?_
  refine execs_ifC ?_
  refine r_loc (by with_reducible assumption) (by rfl) ?_
  (refine r_callL1 (by with_reducible assumption) (by rfl) (by rfl) (by rfl) ?_; intro _ _)
  skip
  refine ⟨Fm.keep (by with_reducible assumption), law_limbs_c (by with_reducible assumption) (by rfl) (by assumption) rfl (by walk_at "m_n") hA ?_⟩
  intro r₂ h₂ t₂ F₂
  skip
  refine x_neQ (ns := dg N) (by walk_at "m_has") (by walk_at "m_has") hA.u ?_
  with_reducible refine wpAny_truthy_bool ?_
  with_reducible refine ite_f ?_
  with_reducible refine wpAny_execs_nil ?_
  with_reducible refine wpAny_execs_cons ?_
  refine wpAny_For ?_
  with_reducible refine wpAny_BinOp ?_
  with_reducible refine wpAny_BinOp ?_
  refine r_loc (by with_reducible assumption) (by rfl) ?_
  refine r_loc (by with_reducible assumption) (by rfl) ?_
  refine x_cat (by with_reducible assumption) (ns := dg M) (by walk_at "m_has") (ms := dg N) (by walk_at "m_has") (by walk_at "m_n") ?_
  intro r₃ h₃ F₃
  with_reducible refine List_ ?_
  refine args_loc (by with_reducible assumption) (by rfl) ?_
  refine args_loc (by with_reducible assumption) (by rfl) ?_
  with_reducible refine args_nil ?_
  refine x_newList (by with_reducible assumption) (by simp) ?_
  intro r₄ h₄ F₄
  replace F₄ := F₄.also (K' := .kP [(M : Int), cmpI M N]) (.head _) (fun _ x => x.ex_pl (.cons _ _ (.cons _ _ .nil)))
  skip
  refine x_cat (by with_reducible assumption) (ns := dg M ++ dg N) (by walk_at "m_has") (ms := [(M : Int), cmpI M N]) (by walk_at "m_has") (by rw [List.length_append]; simp only [List.length_cons, List.length_nil]; walk_at "m_n") ?_
  intro r₅ h₅ F₅
  replace F₅ := F₅.also (K' := .kI (dg M ++ dg N ++ [(M : Int), cmpI M N])) (.head _) (fun _ x => x.pl_ints)
  skip
  refine r_list (by with_reducible assumption) (by walk_at "m_mem") hh (σ := Unit) (fun _ => none) (fun _ => []) (fun _ => []) [] (fun _ _ => True) () rfl trivial (by walk_at "m_sub") (fun _ _ q => nomatch q) trivial ?_ ?_
  · rintro j c u' h₆ t₆ o I oX E' hj hJ F₆
    dsimp only [List.nil_append, List.cons_append] at F₆ ⊢
    with_reducible refine wpAny_execs_cons ?_
    with_reducible refine wpAny_If ?_
    with_reducible refine wpAny_isTrue_Not ?_
    refine wpAny_isTrue_Compare1 ?_
    refine r_tcall bb_type (by with_reducible assumption) (by walk_at "m_mem") ?_
    refine args_loc (by with_reducible assumption) (by rfl) ?_
    with_reducible refine args_nil ?_
    with_reducible refine x_typeI ?_
    refine r_bi (by with_reducible assumption) (by walk_at "m_mem") bb_int ?_
    refine x_isT (c := true) (by decide) ?_
    with_reducible refine wpAny_truthy_bool ?_
    with_reducible refine ite_nt ?_
    with_reducible refine wpAny_execs_nil ?_
    with_reducible refine wpAny_execs_nil ?_
    exact turn_next () (by assumption) rfl (by walk_at "m_Sub") (by walk_at "m_sub") trivial
  · rintro c h₆ t₆ hJ F₆
    with_reducible refine wpAny_execs_cons ?_
    with_reducible refine wpAny_Return_some ?_
    with_reducible refine x_bool ?_
    skip
    exact k _ _ F₆.keep

theorem law_holds_c {M N : Nat} {mi ni : Int} {u₁ u₂ : Tok} (F : Fm (Wx mg mb) h₀ L dl h m led) (hd : defAt pw 27 = some (nm, ps, bd, sc)) (hf : FnRef h₀ f (nm, ps, bd, sc)) (hx : Is h a (.kI (dg M))) (hy : Is h a' (.kI (dg N))) (hm : mi = (M : Int)) (hn : ni = (N : Int))
    (hM : M < 100000000000000000000) (hN : N < 100000000000000000000) (hA : Rm 2 A)
    (k : ∀ h' t', Fm (Wx mg mb) h₀ L dl h' m led → Q (.bool true) (St b h' t')) :
    wpAny (model prog w) A (call (.ref f) [.ref a, .ref a', .int mi u₁, .int ni u₂]) Q E (St b h t) := by
  cases hd
  subst hm; subst hn
  have lM : (dg M).length ≤ 5 := dg_len_le (by rw [show (10000 : Int) ^ 5 = 100000000000000000000 by decide]; walk_at "m_n")
  have lN : (dg N).length ≤ 5 := dg_len_le (by rw [show (10000 : Int) ^ 5 = 100000000000000000000 by decide]; walk_at "m_n")
  refine r_enter F hf (hA.le (by walk_at "m_n")) [("a", .ref a), ("b", .ref a'), ("m", .int (M : Int) u₁), ("n", .int (N : Int) u₂)] [(a, .kI (dg M), false), (a', .kI (dg N), false)] ⟨⟨hx, rfl⟩, ⟨hy, rfl⟩, trivial⟩ ?_
  intro L' h₁ t₁ code F₁
  refine execs_split 7 ?_
  simp only [List.take]
  refine execs_ifC ?_
  (refine r_callL1 (by with_reducible assumption) (by rfl) (by rfl) (by rfl) ?_; intro _ _)
  skip
  refine ⟨Fm.keep (by with_reducible assumption), is_natural_c (by with_reducible assumption) (by rfl) (by assumption) (xs := dg M) (by walk_at "m_has") (by walk_at "m_n") (hA.deeper.le (by walk_at "m_n")) ?_⟩
  rw [natB_dg]
  intro h₂ t₂ F₂
  with_reducible refine x_bool ?_
  refine x_isnotB (by rfl) ?_
  with_reducible refine wpAny_truthy_bool ?_
  with_reducible refine ite_f ?_
  with_reducible refine wpAny_execs_nil ?_
  refine execs_asg ?_
  (refine r_callL1 (by with_reducible assumption) (by rfl) (by rfl) (by rfl) ?_; intro _ _)
  skip
  refine ⟨Fm.keep (by with_reducible assumption), to_int_c (by with_reducible assumption) (by rfl) (by assumption) (xs := dg M) (by walk_at "m_has") (by walk_at "m_n") (hA.deeper.le (by walk_at "m_n")) ?_⟩
  rw [vl_dg]
  intro u₃ h₃ t₃ F₃
  (refine r_store (by with_reducible assumption) ?_; intro _ _ _)
  refine execs_asg ?_
  (refine r_callL1 (by with_reducible assumption) (by rfl) (by rfl) (by rfl) ?_; intro _ _)
  skip
  refine ⟨Fm.keep (by with_reducible assumption), to_decimal_c (by with_reducible assumption) (by rfl) (by assumption) (n := M) (by walk_at "m_has") (by walk_at "m_n") (hA.deeper.le (by walk_at "m_n")) ?_⟩
  intro u₄ h₄ t₄ F₄
  (refine r_store (by with_reducible assumption) ?_; intro _ _ _)
  refine execs_asg ?_
  (refine r_callL2 (by with_reducible assumption) (by rfl) (by rfl) (by rfl) (by rfl) ?_; intro _ _)
  skip
  refine ⟨Fm.keep (by with_reducible assumption), compare_c (by with_reducible assumption) (by rfl) (by assumption) (x := M) (by walk_at "m_has") (y := N) (by walk_at "m_has") (by walk_at "m_n") (by walk_at "m_n") (hA.deeper.le (by walk_at "m_n")) ?_⟩
  intro u₅ h₅ t₅ F₅
  (refine r_store (by with_reducible assumption) ?_; intro _ _ _)
  refine execs_asg ?_
  ((with_reducible refine x_int ?_); intro _ _)
  (refine r_store (by with_reducible assumption) ?_; intro _ _ _)
  refine execs_ifC ?_
  refine r_loc (by with_reducible assumption) (by rfl) ?_
  refine r_loc (by with_reducible assumption) (by rfl) ?_
  with_reducible refine P.lt_int ?_
  with_reducible refine wpAny_truthy_bool ?_
  refine ite_dec (fun q1 => ?_) (fun q1 => ?_)
  · have e : cmpI M N = -1 := by unfold cmpI; rw [if_pos (by walk_at "m_n")]
    refine execs_asg ?_
    with_reducible refine wpAny_UnaryOp ?_
    ((with_reducible refine x_int ?_); intro _ _)
    ((with_reducible refine x_neg ?_); intro _ _)
    (refine r_store (by with_reducible assumption) ?_; intro _ _ _)
    with_reducible refine wpAny_execs_nil ?_
    refine execs_ifC ?_
    refine r_loc (by with_reducible assumption) (by rfl) ?_
    refine r_loc (by with_reducible assumption) (by rfl) ?_
    with_reducible refine P.gt_int ?_
    with_reducible refine wpAny_truthy_bool ?_
    with_reducible refine ite_dec (fun q => absurd q (by walk_at "m_n")) (fun _ => ?_)
    with_reducible refine wpAny_execs_nil ?_
    with_reducible refine wpAny_execs_nil ?_
    skip
    exact holds_tail (Fm.wk (by with_reducible assumption) ⟨by rw [e]; rfl, by walk_at "m_Sub"⟩ (by walk_at "m_sub")) rfl hM hN hA.deeper (fun h'' t'' st => k h'' t'' (F.after st))
  · with_reducible refine wpAny_execs_nil ?_
    refine execs_ifC ?_
    refine r_loc (by with_reducible assumption) (by rfl) ?_
    refine r_loc (by with_reducible assumption) (by rfl) ?_
    with_reducible refine P.gt_int ?_
    with_reducible refine wpAny_truthy_bool ?_
    refine ite_dec (fun q2 => ?_) (fun q2 => ?_)
    · have e : cmpI M N = 1 := by unfold cmpI; rw [if_neg (by walk_at "m_n"), if_neg (by walk_at "m_n")]
      refine execs_asg ?_
      ((with_reducible refine x_int ?_); intro _ _)
      (refine r_store (by with_reducible assumption) ?_; intro _ _ _)
      with_reducible refine wpAny_execs_nil ?_
      with_reducible refine wpAny_execs_nil ?_
      skip
      exact holds_tail (Fm.wk (by with_reducible assumption) ⟨by rw [e]; rfl, by walk_at "m_Sub"⟩ (by walk_at "m_sub")) rfl hM hN hA.deeper (fun h'' t'' st => k h'' t'' (F.after st))
    · have e : cmpI M N = 0 := by unfold cmpI; rw [if_neg (by walk_at "m_n"), if_pos (by walk_at "m_n")]
      with_reducible refine wpAny_execs_nil ?_
      with_reducible refine wpAny_execs_nil ?_
      skip
      exact holds_tail (Fm.wk (by with_reducible assumption) ⟨by rw [e]; rfl, by walk_at "m_Sub"⟩ (by walk_at "m_sub")) rfl hM hN hA.deeper (fun h'' t'' st => k h'' t'' (F.after st))

theorem bad_at : ∀ i : Nat, i < 2 → ¬ (0 ≤ ([10000, -1] : List Int).getD i 0 ∧ ([10000, -1] : List Int).getD i 0 < 10000)
  | 0, _ => by decide
  | 1, _ => by decide
  | _ + 2, q => absurd q (by walk_at "m_n")
theorem law_border_c {M : Nat} {mi x y : Int} {u₁ u₂ u₃ : Tok} (F : Fm (Wx mg mb) h₀ L dl h m led) (hd : defAt pw 28 = some (nm, ps, bd, sc)) (hf : FnRef h₀ f (nm, ps, bd, sc)) (hx : Is h a (.kI (dg M))) (hm : mi = (M : Int)) (hM : M < 100000000000000000000) (hA : Rm 2 A)
    (k : ∀ h' t', Fm (Wx mg mb) h₀ L dl h' m led → Q (.bool true) (St b h' t')) :
    wpAny (model prog w) A (call (.ref f) [.ref a, .int mi u₁, .int x u₂, .int y u₃]) Q E (St b h t) := by
  cases hd
  subst hm
  have lM : (dg M).length ≤ 5 := dg_len_le (by rw [show (10000 : Int) ^ 5 = 100000000000000000000 by decide]; walk_at "m_n")
  have l1 : (dg 1).length ≤ 5 := dg_len_le (by decide)
  have lu : (dg (M + 1)).length ≤ 6 := dg_len_le (by rw [show (10000 : Int) ^ 6 = 1000000000000000000000000 by decide]; walk_at "m_n")
  have one : ([1] : List Int) = dg 1 := by rw [dg_pos (by decide), dg_zero]; rfl
  refine r_enter F hf (hA.le (by walk_at "m_n")) [("a", .ref a), ("m", .int (M : Int) u₁), ("x", .int x u₂), ("y", .int y u₃)] [(a, .kI (dg M), false)] ⟨⟨hx, rfl⟩, trivial⟩ ?_
  intro L' h₁ t₁ code F₁
  have p0 := Int.emod_nonneg x (show ((dg M).length : Int) + 1 ≠ 0 by walk_at "m_n")
  have p1 := Int.emod_lt_of_pos x (show 0 < ((dg M).length : Int) + 1 by walk_at "m_n")
  obtain ⟨z, hz⟩ := Int.eq_ofNat_of_zero_le (show 0 ≤ 1 + y % 2 by walk_at "m_n")
  have hz2 : z ≤ 2 := by walk_at "m_n"
  have ht : ((dg M).take (x % (((dg M).length : Int) + 1)).toNat).length ≤ 5 := by rw [List.length_take]; exact Nat.le_trans (Nat.min_le_right _ _) lM
  have hdl : ((dg M).drop (x % (((dg M).length : Int) + 1)).toNat).length ≤ 5 := by rw [List.length_drop]; exact Nat.le_trans (Nat.sub_le _ _) lM
  refine execs_asg ?_
  with_reducible refine wpAny_BinOp ?_
  refine r_loc (by with_reducible assumption) (by rfl) ?_
  with_reducible refine wpAny_BinOp ?_
  (refine r_len (by with_reducible assumption) (by rfl) (by walk_at "m_has") (by walk_at "m_n") ?_ (by walk_at "m_mem"); intro _ _)
  ((with_reducible refine x_int ?_); intro _ _)
  ((with_reducible refine x_add ?_); intro _ _)
  ((with_reducible refine x_mod (by walk_at "m_n") ?_); intro _ _)
  (refine r_store (by with_reducible assumption) ?_; intro _ _ _)
  refine execs_asg ?_
  with_reducible refine wpAny_BinOp ?_
  with_reducible refine wpAny_BinOp ?_
  (refine x_uptoN (by with_reducible assumption) (by rfl) (by rfl) (by walk_at "m_has") (by walk_at "m_n") (by walk_at "m_n") ?_; intro _ _ _)
  with_reducible refine List_ ?_
  refine args_cons ?_
  refine Subscript_ ?_
  (refine r_tab (by with_reducible assumption) (by walk_at "m_mem") ?_; intro _ _ _ _)
  with_reducible refine wpAny_BinOp ?_
  refine r_loc (by with_reducible assumption) (by rfl) ?_
  ((with_reducible refine x_int ?_); intro _ _)
  ((with_reducible refine x_mod (by walk_at "m_n") ?_); intro _ _)
  (refine x_itemT (by with_reducible assumption) (by with_reducible assumption) (by walk_at "m_n") (by simp only [List.length_cons, List.length_nil]; walk_at "m_n") (by walk_at "m_n") ?_; intro _)
  with_reducible refine args_nil ?_
  skip
  refine x_newList (by with_reducible assumption) (by simp) ?_
  intro r₂ h₂ F₂
  replace F₂ := F₂.also (K' := .kP [([10000, -1] : List Int).getD (y % 2).toNat 0]) (.head _) (fun _ x => x.ex_pl (.cons _ _ .nil))
  skip
  refine x_cat (by with_reducible assumption) (ns := (dg M).take (x % (((dg M).length : Int) + 1)).toNat) (by walk_at "m_has") (ms := [([10000, -1] : List Int).getD (y % 2).toNat 0]) (by walk_at "m_has") (Nat.le_trans (Nat.add_le_add ht (Nat.le_refl 1)) (by decide)) ?_
  intro r₃ h₃ F₃
  (refine x_fromN (by with_reducible assumption) (by rfl) (by rfl) (by walk_at "m_has") (by walk_at "m_n") (by walk_at "m_n") ?_; intro _ _ _)
  refine x_cat (by with_reducible assumption) (ns := (dg M).take (x % (((dg M).length : Int) + 1)).toNat ++ [([10000, -1] : List Int).getD (y % 2).toNat 0]) (by walk_at "m_has") (ms := (dg M).drop (x % (((dg M).length : Int) + 1)).toNat) (by walk_at "m_has") (by rw [List.length_append]; exact Nat.le_trans (Nat.add_le_add (Nat.add_le_add ht (Nat.le_refl 1)) hdl) (by decide)) ?_
  intro r₄ h₄ F₄
  (refine r_store (by with_reducible assumption) ?_; intro _ _ _)
  refine execs_ifC ?_
  (refine r_callL1 (by with_reducible assumption) (by rfl) (by rfl) (by rfl) ?_; intro _ _)
  skip
  refine ⟨Fm.keep (by with_reducible assumption), is_natural_c (by with_reducible assumption) (by rfl) (by assumption) (xs := (dg M).take (x % (((dg M).length : Int) + 1)).toNat ++ [([10000, -1] : List Int).getD (y % 2).toNat 0] ++ (dg M).drop (x % (((dg M).length : Int) + 1)).toNat) (by walk_at "m_has") (by rw [List.length_append, List.length_append]; exact Nat.le_trans (Nat.add_le_add (Nat.add_le_add ht (Nat.le_refl 1)) hdl) (by decide)) (hA.deeper.le (by walk_at "m_n")) ?_⟩
  rw [natB_bad (bad_at _ (by walk_at "m_n"))]
  intro h₅ t₅ F₅
  with_reducible refine x_bool ?_
  refine x_isnotB (by rfl) ?_
  with_reducible refine wpAny_truthy_bool ?_
  with_reducible refine ite_f ?_
  with_reducible refine wpAny_execs_nil ?_
  refine execs_asg ?_
  with_reducible refine wpAny_BinOp ?_
  refine r_loc (by with_reducible assumption) (by rfl) ?_
  with_reducible refine wpAny_BinOp ?_
  with_reducible refine List_ ?_
  refine args_cons ?_
  ((with_reducible refine x_int ?_); intro _ _)
  with_reducible refine args_nil ?_
  skip
  refine x_newList (by with_reducible assumption) (by simp) ?_
  intro r₆ h₆ F₆
  with_reducible refine wpAny_BinOp ?_
  ((with_reducible refine x_int ?_); intro _ _)
  with_reducible refine wpAny_BinOp ?_
  refine r_loc (by with_reducible assumption) (by rfl) ?_
  ((with_reducible refine x_int ?_); intro _ _)
  ((with_reducible refine x_mod (by walk_at "m_n") ?_); intro _ _)
  ((with_reducible refine x_add ?_); intro _ _)
  refine x_rep (by with_reducible assumption) (Fm.has (by with_reducible assumption) (.head _)) (by walk_at "m_n") (by walk_at "m_n") ?_
  rw [hz, Int.toNat_natCast]
  intro r₇ h₇ F₇
  refine x_cat (by with_reducible assumption) (ns := dg M) (by walk_at "m_has") (ms := List.replicate z 0) (by walk_at "m_has") (by rw [List.length_replicate]; exact Nat.le_trans (Nat.add_le_add lM hz2) (by decide)) ?_
  intro r₈ h₈ F₈
  (refine r_store (by with_reducible assumption) ?_; intro _ _ _)
  refine execs_ifC ?_
  (refine r_callL1 (by with_reducible assumption) (by rfl) (by rfl) (by rfl) ?_; intro _ _)
  skip
  refine ⟨Fm.keep (by with_reducible assumption), is_natural_c (by with_reducible assumption) (by rfl) (by assumption) (xs := dg M ++ List.replicate z 0) (by walk_at "m_has") (by rw [List.length_append, List.length_replicate]; exact Nat.le_trans (Nat.add_le_add lM hz2) (by decide)) (hA.deeper.le (by walk_at "m_n")) ?_⟩
  rw [natB_pad (by walk_at "m_n")]
  intro h₉ t₉ F₉
  with_reducible refine x_bool ?_
  refine x_isnotB (by rfl) ?_
  with_reducible refine wpAny_truthy_bool ?_
  with_reducible refine ite_f ?_
  with_reducible refine wpAny_execs_nil ?_
  refine execs_ifC ?_
  (refine r_callL1 (by with_reducible assumption) (by rfl) (by rfl) (by rfl) ?_; intro _ _)
  skip
  refine ⟨Fm.keep (by with_reducible assumption), trimmed_c (by with_reducible assumption) (by rfl) (by assumption) (xs := dg M ++ List.replicate z 0) (by walk_at "m_has") (by rw [List.length_append, List.length_replicate]; exact Nat.le_trans (Nat.add_le_add lM hz2) (by decide)) (ok_append.mpr ⟨ok_dg M, ok_zeros z⟩) (hA.deeper.le (by walk_at "m_n")) ?_⟩
  rw [vl_append, vl_zeros, Int.mul_zero, Int.add_zero, vl_dg, Int.toNat_natCast]
  intro r₉ g₁ s₁ G₁
  (refine r_callL1 (by with_reducible assumption) (by rfl) (by rfl) (by rfl) ?_; intro _ _)
  skip
  refine ⟨Fm.keep (by with_reducible assumption), law_limbs_c (by with_reducible assumption) (by rfl) (by assumption) rfl (by walk_at "m_n") (hA.deeper.le (by walk_at "m_n")) ?_⟩
  intro q₁ g₂ s₂ G₂
  skip
  refine x_neQ (ns := dg M) (by walk_at "m_has") (by walk_at "m_has") hA.deeper.u ?_
  with_reducible refine wpAny_truthy_bool ?_
  with_reducible refine ite_f ?_
  with_reducible refine wpAny_execs_nil ?_
  refine execs_ifC ?_
  refine r_loc (by with_reducible assumption) (by rfl) ?_
  with_reducible refine wpAny_BinOp ?_
  (refine r_callL1 (by with_reducible assumption) (by rfl) (by rfl) (by rfl) ?_; intro _ _)
  skip
  refine ⟨Fm.keep (by with_reducible assumption), law_limbs_c (by with_reducible assumption) (by rfl) (by assumption) rfl (by walk_at "m_n") (hA.deeper.le (by walk_at "m_n")) ?_⟩
  intro q₂ g₃ s₃ G₃
  with_reducible refine wpAny_BinOp ?_
  with_reducible refine List_ ?_
  refine args_cons ?_
  ((with_reducible refine x_int ?_); intro _ _)
  with_reducible refine args_nil ?_
  refine x_newList (by with_reducible assumption) (by simp) ?_
  intro q₃ g₄ G₄
  with_reducible refine wpAny_BinOp ?_
  ((with_reducible refine x_int ?_); intro _ _)
  with_reducible refine wpAny_BinOp ?_
  refine r_loc (by with_reducible assumption) (by rfl) ?_
  ((with_reducible refine x_int ?_); intro _ _)
  ((with_reducible refine x_mod (by walk_at "m_n") ?_); intro _ _)
  ((with_reducible refine x_add ?_); intro _ _)
  refine x_rep (by with_reducible assumption) (Fm.has (by with_reducible assumption) (.head _)) (by walk_at "m_n") (by walk_at "m_n") ?_
  rw [hz, Int.toNat_natCast]
  intro q₄ g₅ G₅
  refine x_cat (by with_reducible assumption) (ns := dg M) (by walk_at "m_has") (ms := List.replicate z 0) (by walk_at "m_has") (by rw [List.length_replicate]; exact Nat.le_trans (Nat.add_le_add lM hz2) (by decide)) ?_
  intro q₅ g₆ G₆
  refine x_neQ (ns := dg M ++ List.replicate z 0) (by walk_at "m_has") (by walk_at "m_has") hA.deeper.u ?_
  with_reducible refine wpAny_truthy_bool ?_
  with_reducible refine ite_f ?_
  with_reducible refine wpAny_execs_nil ?_
  refine execs_asg ?_
  (refine r_callN (by with_reducible assumption) (by rfl) (by rfl) ?_; intro _ _)
  refine args_loc (by with_reducible assumption) (by rfl) ?_
  refine args_cons ?_
  with_reducible refine List_ ?_
  refine args_cons ?_
  ((with_reducible refine x_int ?_); intro _ _)
  with_reducible refine args_nil ?_
  skip
  refine x_newList (by with_reducible assumption) (by simp) ?_
  intro q₆ g₇ G₇
  replace G₇ := G₇.also (K' := .kP [1]) (.head _) (fun _ x => x.ex_pl (.cons 1 _ .nil))
  rw [one] at G₇
  with_reducible refine args_nil ?_
  skip
  refine ⟨Fm.keep (by with_reducible assumption), add_c (by with_reducible assumption) (by rfl) (by assumption) (x := M) (by walk_at "m_has") (y := 1) (by walk_at "m_has") (by walk_at "m_n") (by walk_at "m_n") (hA.deeper.le (by walk_at "m_n")) ?_⟩
  intro q₇ g₈ s₈ G₈
  (refine r_store (by with_reducible assumption) ?_; intro _ _ _)
  refine execs_ifC ?_
  refine r_loc (by with_reducible assumption) (by rfl) ?_
  (refine r_callN (by with_reducible assumption) (by rfl) (by rfl) ?_; intro _ _)
  refine args_cons ?_
  with_reducible refine wpAny_BinOp ?_
  refine r_loc (by with_reducible assumption) (by rfl) ?_
  ((with_reducible refine x_int ?_); intro _ _)
  ((with_reducible refine x_add ?_); intro _ _)
  with_reducible refine args_nil ?_
  skip
  refine ⟨Fm.keep (by with_reducible assumption), law_limbs_c (by with_reducible assumption) (by rfl) (by assumption) (n := M + 1) rfl (by walk_at "m_n") (hA.deeper.le (by walk_at "m_n")) ?_⟩
  intro q₈ g₉ s₉ G₉
  skip
  refine x_neQ (ns := dg (M + 1)) (by walk_at "m_has") (by walk_at "m_has") hA.deeper.u ?_
  with_reducible refine wpAny_truthy_bool ?_
  with_reducible refine ite_f ?_
  with_reducible refine wpAny_execs_nil ?_
  refine execs_ifC ?_
  (refine r_callL2 (by with_reducible assumption) (by rfl) (by rfl) (by rfl) (by rfl) ?_; intro _ _)
  skip
  refine ⟨Fm.keep (by with_reducible assumption), compare_c (by with_reducible assumption) (by rfl) (by assumption) (x := M) (by walk_at "m_has") (y := M + 1) (by walk_at "m_has") (by walk_at "m_n") (by walk_at "m_n") (hA.deeper.le (by walk_at "m_n")) ?_⟩
  rw [show cmpI M (M + 1) = -1 by unfold cmpI; rw [if_pos (by walk_at "m_n")]]
  intro v₁ f₁ e₁ D₁
  with_reducible refine wpAny_UnaryOp ?_
  ((with_reducible refine x_int ?_); intro _ _)
  ((with_reducible refine x_neg ?_); intro _ _)
  with_reducible refine P.ne_int ?_
  with_reducible refine wpAny_truthy_bool ?_
  with_reducible refine ite_bne (fun q => absurd (by walk_at "m_n") q) (fun _ => ?_)
  with_reducible refine wpAny_execs_nil ?_
  refine execs_ifC ?_
  (refine r_callL2 (by with_reducible assumption) (by rfl) (by rfl) (by rfl) (by rfl) ?_; intro _ _)
  skip
  refine ⟨Fm.keep (by with_reducible assumption), compare_c (by with_reducible assumption) (by rfl) (by assumption) (x := M + 1) (by walk_at "m_has") (y := M) (by walk_at "m_has") (by walk_at "m_n") (by walk_at "m_n") (hA.deeper.le (by walk_at "m_n")) ?_⟩
  rw [show cmpI (M + 1) M = 1 by unfold cmpI; rw [if_neg (by walk_at "m_n"), if_neg (by walk_at "m_n")]]
  intro v₂ f₂ e₂ D₂
  ((with_reducible refine x_int ?_); intro _ _)
  with_reducible refine P.ne_int ?_
  with_reducible refine wpAny_truthy_bool ?_
  with_reducible refine ite_bne (fun q => absurd (by walk_at "m_n") q) (fun _ => ?_)
  with_reducible refine wpAny_execs_nil ?_
  refine execs_ifC ?_
  (refine r_callN (by with_reducible assumption) (by rfl) (by rfl) ?_; intro _ _)
  refine args_loc (by with_reducible assumption) (by rfl) ?_
  refine args_cons ?_
  refine x_allN (by with_reducible assumption) (by rfl) (ns := dg M) (by walk_at "m_has") (by walk_at "m_n") ?_
  intro q₉ f₃ D₃
  with_reducible refine args_nil ?_
  skip
  refine ⟨Fm.keep (by with_reducible assumption), compare_c (by with_reducible assumption) (by rfl) (by assumption) (x := M) (by walk_at "m_has") (y := M) (by walk_at "m_has") (by walk_at "m_n") (by walk_at "m_n") (hA.deeper.le (by walk_at "m_n")) ?_⟩
  rw [show cmpI M M = 0 by unfold cmpI; rw [if_neg (by walk_at "m_n"), if_pos rfl]]
  intro v₃ f₄ e₄ D₄
  ((with_reducible refine x_int ?_); intro _ _)
  with_reducible refine P.ne_int ?_
  with_reducible refine wpAny_truthy_bool ?_
  with_reducible refine ite_bne (fun q => absurd (by walk_at "m_n") q) (fun _ => ?_)
  with_reducible refine wpAny_execs_nil ?_
  with_reducible refine wpAny_execs_cons ?_
  with_reducible refine wpAny_Return_some ?_
  with_reducible refine x_bool ?_
  skip
  exact k _ _ (F.back0 (by with_reducible assumption))
end
section
variable {mg mb : Str → Option Value} {prog : Program} {w : World} {A : Around} {E : Value → Shared → Prop} {b : Shared} {h₀ h : Heap} {L a a' f : Addr} {dl : Option (Addr × Kd)} {t : Nat}
  {m : List (Str × Value)} {led : List Ent} {Q : Value → Shared → Prop} {nm : Str} {ps : Arguments} {bd : List Stmt} {sc : Scope}

theorem sh_T {op M N : Nat} {y : Int} {v w : Nat} (h : sh op M N y = .T v w) (ho : op ≤ 8) : op = 5 ∨ op = 8 := by
  rcases (le8 (by walk_at "m_n")) with rfl | rfl | rfl | rfl | rfl | rfl | rfl | rfl | rfl <;> first | exact .inl rfl | exact .inr rfl | (simp only [sh] at h; first | cases h | (split at h <;> cases h))
theorem sh_P {op M N : Nat} {y : Int} {v w : Nat} (h : sh op M N y = .P v w) (ho : op ≤ 8) : op = 6 ∧ w < 10000 := by
  rcases (le8 (by walk_at "m_n")) with rfl | rfl | rfl | rfl | rfl | rfl | rfl | rfl | rfl <;> simp only [sh] at h <;> first | (cases h; exact ⟨rfl, by have := Nat.mod_lt M (show 0 < (1 + y % 9999).toNat by walk_at "m_n"); omega⟩) | cases h | (split at h <;> cases h)
theorem sh_L {op M N : Nat} {y : Int} {v : Nat} (h : sh op M N y = .L v) (ho : op ≤ 8) : op ≠ 5 ∧ op ≠ 6 ∧ op ≠ 8 := by
  rcases (le8 (by walk_at "m_n")) with rfl | rfl | rfl | rfl | rfl | rfl | rfl | rfl | rfl <;> first | decide | (simp only [sh] at h; first | cases h | (split at h <;> cases h))
/-- the second register stays small -/
theorem nx_small {op M N : Nat} {y : Int} (ho : op ≤ 8) (hM : M < 100000000000000000000) (hN : N < 100000000000000000000) : (nx op M N (sh op M N y)).2 < 100000000000000000000 := by
  have lm : ∀ k, M % k ≤ M := Nat.mod_le M
  rcases (le8 (by walk_at "m_n")) with rfl | rfl | rfl | rfl | rfl | rfl | rfl | rfl | rfl
  · exact hM
  · exact hM
  · exact hM
  · exact hM
  · exact hM
  · exact Nat.lt_of_le_of_lt (lm _) hM
  · exact Nat.lt_of_le_of_lt (lm _) hM
  · simp only [sh]; split
    · exact hN
    · exact hM
  · simp only [sh]; split
    · exact hN
    · exact Nat.lt_of_le_of_lt (lm _) hM
/-- the first one is no longer than sixteen limbs -/
theorem nx_len {op M N : Nat} {y : Int} (ho : op ≤ 8) (hM : M < 100000000000000000000) (hN : N < 100000000000000000000) : (dg (nx op M N (sh op M N y)).1).length ≤ 16 := by
  have l16 : ∀ v : Nat, v < 10000000000000000000000000000000000000000000000000000000000000 → (dg v).length ≤ 16 := fun v hv => dg_len_le (by rw [show (10000 : Int) ^ 16 = 10000000000000000000000000000000000000000000000000000000000000000 by decide]; walk_at "m_n")
  have ld : ∀ k, M / k ≤ M := fun k => Nat.div_le_self M k
  by_cases h5 : op < 5
  · obtain ⟨v, hs, _, hv⟩ := due_val y h5 hM hN
    rw [hs]; exact l16 v hv
  · rcases (le58 (Nat.not_lt.mp (by with_reducible assumption)) (by with_reducible assumption)) with rfl | rfl | rfl | rfl
    · exact l16 _ (Nat.lt_of_le_of_lt (ld _) (Nat.lt_trans hM (by decide)))
    · exact l16 _ (Nat.lt_of_le_of_lt (ld _) (Nat.lt_trans hM (by decide)))
    · simp only [sh]; split
      · exact l16 _ (Nat.lt_trans hM (by decide))
      · exact l16 _ (Nat.lt_of_le_of_lt (Nat.sub_le _ _) (Nat.lt_trans hM (by decide)))
    · simp only [sh]; split
      · exact l16 _ (Nat.lt_trans hM (by decide))
      · exact l16 _ (Nat.lt_of_le_of_lt (ld _) (Nat.lt_trans hM (by decide)))
/-- the rows of a loop -/
def bodyOf (l : List Stmt) (i : Nat) : List Stmt := match l[i]? with
  | some (.For _ _ b _ _) => b
  | _ => []
theorem Fm.swap1 {W : Wd} {h₀ h : Heap} {L : Addr} {dl : Option (Addr × Kd)} {m : List (Str × Value)} {x : Ent} {l led : List Ent} (F : Fm W h₀ L dl h m (x :: (l ++ led))) : Fm W h₀ L dl h m (x :: (led ++ l)) :=
  F.wkl fun _ hq => (List.mem_cons.mp hq).elim (fun e => e ▸ .head _) fun hq => .tail _ ((List.mem_append.mp hq).elim (fun h => List.mem_append_right _ h) fun h => List.mem_append_left _ h)
theorem law_turn {ra rb rd : Addr} {cd v v' : Value} {es : List Ent} {M N op : Nat} {x : Int} {uo ux um un u₁ u₂ : Tok} {Q : Flow → Shared → Prop}
    (F : Fm (Wx mg mb) h₀ L none h [("due", .ref rd), ("got", v), ("op", .int (op : Int) uo), ("x", .int x ux), ("a", .ref ra), ("b", .ref rb), ("m", .int (M : Int) um), ("n", .int (N : Int) un), ("script", .ref a)] led)
    (hs : AnsIs (sh op M N x) v es) (hes : ∀ q ∈ es, q ∈ led) (hdue : (rd, .kT [v', .int (((nx op M N (sh op M N x)).1 : Nat) : Int) u₁, .int (((nx op M N (sh op M N x)).2 : Nat) : Int) u₂], true) ∈ led)
    (ha : (ra, .kP (dg M), true) ∈ led) (hb : (rb, .kP (dg N), true) ∈ led) (ho8 : op ≤ 8) (hM : M < 100000000000000000000) (hN : N < 100000000000000000000) (hd : defAt pw 29 = some (nm, ps, bd, sc))
    (k : ∀ r₁ r₂ u u' h' t', Fm (Wx mg mb) h₀ L none h' [("n", .int (((nx op M N (sh op M N x)).2 : Nat) : Int) u'), ("m", .int (((nx op M N (sh op M N x)).1 % 100000000000000000000 : Nat) : Int) u), ("a", .ref r₁), ("b", .ref r₂), ("script", .ref a)] ((r₁, .kP (dg ((nx op M N (sh op M N x)).1 % 100000000000000000000)), true) :: (r₂, .kP (dg (nx op M N (sh op M N x)).2), true) :: led) → Q .next (St b h' t')) :
    wpAny (model prog w) (callerA.deeper (envOf nm sc L f cd)) (execs (restOf 5 (bodyOf bd 6)) (envOf nm sc L f cd)) Q E (St b h t) := by
  cases hd
  have hA : Rm 10 callerA := ⟨by decide, by decide, rfl⟩
  have hh : callerA.handled = none := rfl
  have hv := nx_len (y := x) ho8 hM hN
  generalize hV : (nx op M N (sh op M N x)).1 = V at *
  generalize hW : (nx op M N (sh op M N x)).2 = V' at *
  replace F := ((F.also ha (fun _ x => x)).also (.tail _ hb) (fun _ x => x)).also (.tail _ (.tail _ hdue)) (fun _ x => x)
  show wpAny _ _ (execs (_ :: _) _) _ _ _
  refine execs_ifN ?_
  (refine r_callL4 (by with_reducible assumption) (by rfl) (by rfl) (by rfl) (by rfl) (by rfl) (by rfl) ?_; intro _ _)
  skip
  refine ⟨Fm.keep (by with_reducible assumption), law_holds_c (by with_reducible assumption) (by rfl) (by assumption) (M := M) (by walk_at "m_has") (N := N) (by walk_at "m_has") rfl rfl hM hN (hA.deeper.le (by walk_at "m_n")) ?_⟩
  intro h₁ t₁ F₁
  with_reducible refine wpAny_truthy_bool ?_
  with_reducible refine ite_nt ?_
  with_reducible refine wpAny_execs_nil ?_
  with_reducible refine wpAny_execs_cons ?_
  refine Assign_Tuple ?_
  (refine r_callL4 (by with_reducible assumption) (by rfl) (by rfl) (by rfl) (by rfl) (by rfl) (by rfl) ?_; intro _ _)
  skip
  refine ⟨Fm.keep (by with_reducible assumption), law_next_c (by with_reducible assumption) (by rfl) (by assumption) rfl hs (fun y z => ⟨fun e => sh_T e ho8, fun e => sh_P e ho8⟩) (fun y e => sh_L e ho8) (M := M) (by walk_at "m_mem") (N := N) (by walk_at "m_mem") (fun q hq => .tail _ (.tail _ (.tail _ (hes q hq)))) (hA.deeper.le (by walk_at "m_n")) ?_⟩
  rw [hV, hW]
  intro r r₁ r₂ h₂ t₂ F₂
  refine x_unpack F₂ (Fm.has F₂ (.head _)) hh ?_
  intro h₃ F₃
  refine wpAny_assignInOrder_more ?_
  refine wpAny_assign_Name ?_
  (refine r_store (by with_reducible assumption) ?_; intro _ _ _)
  refine wpAny_assignInOrder_more ?_
  refine wpAny_assign_Name ?_
  (refine r_store (by with_reducible assumption) ?_; intro _ _ _)
  refine wpAny_assignInOrder_none ?_
  refine execs_asg ?_
  refine Subscript_ ?_
  (refine r_callN (by with_reducible assumption) (by rfl) (by rfl) ?_; intro _ _)
  refine args_loc (by with_reducible assumption) (by rfl) ?_
  refine args_cons ?_
  ((with_reducible refine x_int ?_); intro _ _)
  with_reducible refine args_nil ?_
  skip
  refine ⟨Fm.keep (by with_reducible assumption), split_at_c (by with_reducible assumption) (by rfl) (by assumption) (x := V) (by walk_at "m_has") (by walk_at "m_n") (by walk_at "m_n") (hA.deeper.le (by walk_at "m_n")) ?_⟩
  intro r₃ q q' h₄ t₄ F₄
  rw [show (10000 : Nat) ^ (5 : Int).toNat = 100000000000000000000 from by decide] at F₄
  ((with_reducible refine x_int ?_); intro _ _)
  refine x_itemW (by walk_at "m_has") (by rfl) (by rfl) (by decide) (by decide) ?_
  (refine r_store (by with_reducible assumption) ?_; intro _ _ _)
  refine execs_asg ?_
  with_reducible refine wpAny_BinOp ?_
  refine Subscript_ ?_
  refine r_loc (by with_reducible assumption) (by rfl) ?_
  ((with_reducible refine x_int ?_); intro _ _)
  refine x_itemW (by walk_at "m_has") (by rfl) (by rfl) (by decide) (by decide) ?_
  with_reducible refine wpAny_BinOp ?_
  ((with_reducible refine x_int ?_); intro _ _)
  ((with_reducible refine x_int ?_); intro _ _)
  ((with_reducible refine x_pow (by walk_at "m_n") (pow_fits (by walk_at "m_n") (by walk_at "m_n") (by walk_at "m_n") (by walk_at "m_n")) ?_); intro _ _)
  ((with_reducible refine x_mod (by walk_at "m_n") ?_); intro _ _)
  (refine r_store (by with_reducible assumption) ?_; intro _ _ _)
  refine execs_asg ?_
  refine Subscript_ ?_
  refine r_loc (by with_reducible assumption) (by rfl) ?_
  ((with_reducible refine x_int ?_); intro _ _)
  refine x_itemW (by walk_at "m_has") (by rfl) (by rfl) (by decide) (by decide) ?_
  (refine r_store (by with_reducible assumption) ?_; intro _ _ _)
  with_reducible refine wpAny_execs_nil ?_
  rename_i F₅
  rw [show (V : Int) % 10 ^ (20 : Int).toNat = ((V % 100000000000000000000 : Nat) : Int) from by rw [show (10 : Int) ^ (20 : Int).toNat = ((100000000000000000000 : Nat) : Int) from by decide]; rfl] at F₅
  exact k q r₂ _ _ _ _ (F₅.wk (by walk_at "m_Sub") (sub_cons (by walk_at "m_mem") (sub_cons (by walk_at "m_mem") (by walk_at "m_up"))))

theorem law_body {l : Addr} {cd : Value} {xs : List Int} {Q : Flow → Shared → Prop} (F : Fm (Wx mg mb) h₀ L none h [("script", .ref l)] [(l, .kI xs, false)]) (hxs : xs.length ≤ 63) (hd : defAt pw 29 = some (nm, ps, bd, sc))
    (k : ∀ h' t', Stays h₀ h' → Q (.ret (.bool true)) (St b h' t')) :
    wpAny (model prog w) (callerA.deeper (envOf nm sc L a cd)) (execs bd (envOf nm sc L a cd)) Q E (St b h t) := by
  cases hd
  have hA : Rm 10 callerA := ⟨by decide, by decide, rfl⟩
  have hh : callerA.handled = none := rfl
  have l3 : ∀ v : Nat, v < 1000000000000 → (dg v).length ≤ 5000 := fun v hv => Nat.le_trans (dg_len_le (k := 3) (by rw [show (10000 : Int) ^ 3 = 1000000000000 by decide]; walk_at "m_n")) (by decide)
  refine execs_ifC ?_
  (refine r_len (by with_reducible assumption) (by rfl) (by walk_at "m_has") (by walk_at "m_n") ?_ (by walk_at "m_mem"); intro _ _)
  ((with_reducible refine x_int ?_); intro _ _)
  with_reducible refine P.lt_int ?_
  with_reducible refine wpAny_truthy_bool ?_
  refine ite_dec (fun q0 => ?_) (fun q0 => ?_)
  · with_reducible refine wpAny_execs_cons ?_
    with_reducible refine wpAny_Return_some ?_
    with_reducible refine x_bool ?_
    skip
    exact k _ _ (Fm.keep (by with_reducible assumption))
  have hx18 : 18 ≤ xs.length := by walk_at "m_n"
  with_reducible refine wpAny_execs_nil ?_
  refine execs_asg ?_
  (refine r_callN (by with_reducible assumption) (by rfl) (by rfl) ?_; intro _ _)
  refine args_cons ?_
  (refine x_scr (by with_reducible assumption) (by rfl) (by walk_at "m_has") (by walk_at "m_n") (by walk_at "m_n") (by walk_at "m_n") ?_; intro _ _ _)
  refine args_cons ?_
  (refine x_scr (by with_reducible assumption) (by rfl) (by walk_at "m_has") (by walk_at "m_n") (by walk_at "m_n") (by walk_at "m_n") ?_; intro _ _ _)
  refine args_cons ?_
  (refine x_scr (by with_reducible assumption) (by rfl) (by walk_at "m_has") (by walk_at "m_n") (by walk_at "m_n") (by walk_at "m_n") ?_; intro _ _ _)
  refine args_cons ?_
  (refine x_scr (by with_reducible assumption) (by rfl) (by walk_at "m_has") (by walk_at "m_n") (by walk_at "m_n") (by walk_at "m_n") ?_; intro _ _ _)
  with_reducible refine args_nil ?_
  skip
  refine ⟨Fm.keep (by with_reducible assumption), law_number_c (by with_reducible assumption) (by rfl) (by assumption) (hA.deeper.le (by walk_at "m_n")) ?_⟩
  intro M₀ um h₁ t₁ hM₀ F₁
  (refine r_store (by with_reducible assumption) ?_; intro _ _ _)
  refine execs_asg ?_
  (refine r_callN (by with_reducible assumption) (by rfl) (by rfl) ?_; intro _ _)
  refine args_cons ?_
  (refine x_scr (by with_reducible assumption) (by rfl) (by walk_at "m_has") (by walk_at "m_n") (by walk_at "m_n") (by walk_at "m_n") ?_; intro _ _ _)
  refine args_cons ?_
  (refine x_scr (by with_reducible assumption) (by rfl) (by walk_at "m_has") (by walk_at "m_n") (by walk_at "m_n") (by walk_at "m_n") ?_; intro _ _ _)
  refine args_cons ?_
  (refine x_scr (by with_reducible assumption) (by rfl) (by walk_at "m_has") (by walk_at "m_n") (by walk_at "m_n") (by walk_at "m_n") ?_; intro _ _ _)
  refine args_cons ?_
  (refine x_scr (by with_reducible assumption) (by rfl) (by walk_at "m_has") (by walk_at "m_n") (by walk_at "m_n") (by walk_at "m_n") ?_; intro _ _ _)
  with_reducible refine args_nil ?_
  skip
  refine ⟨Fm.keep (by with_reducible assumption), law_number_c (by with_reducible assumption) (by rfl) (by assumption) (hA.deeper.le (by walk_at "m_n")) ?_⟩
  intro N₀ un h₂ t₂ hN₀ F₂
  (refine r_store (by with_reducible assumption) ?_; intro _ _ _)
  refine execs_asg ?_
  (refine r_callL1 (by with_reducible assumption) (by rfl) (by rfl) (by rfl) ?_; intro _ _)
  skip
  refine ⟨Fm.keep (by with_reducible assumption), from_int_c (by with_reducible assumption) (by rfl) (by assumption) (Int.natCast_nonneg _) (by rw [Int.toNat_natCast]; exact l3 _ hM₀) (hA.deeper.le (by walk_at "m_n")) ?_⟩
  rw [Int.toNat_natCast]
  intro ra₀ h₃ t₃ F₃
  (refine r_store (by with_reducible assumption) ?_; intro _ _ _)
  refine execs_asg ?_
  (refine r_callL1 (by with_reducible assumption) (by rfl) (by rfl) (by rfl) ?_; intro _ _)
  skip
  refine ⟨Fm.keep (by with_reducible assumption), from_int_c (by with_reducible assumption) (by rfl) (by assumption) (Int.natCast_nonneg _) (by rw [Int.toNat_natCast]; exact l3 _ hN₀) (hA.deeper.le (by walk_at "m_n")) ?_⟩
  rw [Int.toNat_natCast]
  intro rb₀ h₄ t₄ F₄
  (refine r_store (by with_reducible assumption) ?_; intro _ _ _)
  refine execs_asg ?_
  with_reducible refine Tuple_ ?_
  refine args_cons ?_
  with_reducible refine Tuple_ ?_
  refine args_cons ?_
  (refine x_scr (by with_reducible assumption) (by rfl) (by walk_at "m_has") (by walk_at "m_n") (by walk_at "m_n") (by walk_at "m_n") ?_; intro _ _ _)
  refine args_cons ?_
  (refine x_scr (by with_reducible assumption) (by rfl) (by walk_at "m_has") (by walk_at "m_n") (by walk_at "m_n") (by walk_at "m_n") ?_; intro _ _ _)
  with_reducible refine args_nil ?_
  (refine x_newTuple (by with_reducible assumption) (by simp) ?_; intro _ _ _)
  refine args_cons ?_
  with_reducible refine Tuple_ ?_
  refine args_cons ?_
  (refine x_scr (by with_reducible assumption) (by rfl) (by walk_at "m_has") (by walk_at "m_n") (by walk_at "m_n") (by walk_at "m_n") ?_; intro _ _ _)
  refine args_cons ?_
  (refine x_scr (by with_reducible assumption) (by rfl) (by walk_at "m_has") (by walk_at "m_n") (by walk_at "m_n") (by walk_at "m_n") ?_; intro _ _ _)
  with_reducible refine args_nil ?_
  (refine x_newTuple (by with_reducible assumption) (by simp) ?_; intro _ _ _)
  refine args_cons ?_
  with_reducible refine Tuple_ ?_
  refine args_cons ?_
  (refine x_scr (by with_reducible assumption) (by rfl) (by walk_at "m_has") (by walk_at "m_n") (by walk_at "m_n") (by walk_at "m_n") ?_; intro _ _ _)
  refine args_cons ?_
  (refine x_scr (by with_reducible assumption) (by rfl) (by walk_at "m_has") (by walk_at "m_n") (by walk_at "m_n") (by walk_at "m_n") ?_; intro _ _ _)
  with_reducible refine args_nil ?_
  (refine x_newTuple (by with_reducible assumption) (by simp) ?_; intro _ _ _)
  refine args_cons ?_
  with_reducible refine Tuple_ ?_
  refine args_cons ?_
  (refine x_scr (by with_reducible assumption) (by rfl) (by walk_at "m_has") (by walk_at "m_n") (by walk_at "m_n") (by walk_at "m_n") ?_; intro _ _ _)
  refine args_cons ?_
  (refine x_scr (by with_reducible assumption) (by rfl) (by walk_at "m_has") (by walk_at "m_n") (by walk_at "m_n") (by walk_at "m_n") ?_; intro _ _ _)
  with_reducible refine args_nil ?_
  (refine x_newTuple (by with_reducible assumption) (by simp) ?_; intro _ _ _)
  with_reducible refine args_nil ?_
  (refine x_newTuple (by with_reducible assumption) (by simp) ?_; intro _ _ _)
  (refine r_store (by with_reducible assumption) ?_; intro _ _ _)
  with_reducible refine wpAny_execs_cons ?_
  refine wpAny_For ?_
  refine r_loc (by with_reducible assumption) (by rfl) ?_
  rename_i _ _ v1 _ _ w1 p1 _ _ _ _ v2 _ _ w2 p2 _ _ _ _ v3 _ _ w3 p3 _ _ _ _ v4 _ _ w4 p4 _ _ rst _ _ _ _ _
  refine r_tup (by with_reducible assumption) (by walk_at "m_mem") hh (σ := (Addr × Addr) × (Nat × Nat) × (Tok × Tok)) (fun _ => none) (fun c => [("a", .ref c.1.1), ("b", .ref c.1.2), ("m", .int (c.2.1.1 : Int) c.2.2.1), ("n", .int (c.2.1.2 : Int) c.2.2.2), ("script", .ref l)]) (fun c => [(c.1.1, .kP (dg c.2.1.1), true), (c.1.2, .kP (dg c.2.1.2), true)])
    [(p1, .kT [.int (xs.getD (8 : Int).toNat 0) v1, .int (xs.getD (9 : Int).toNat 0) w1], true), (p2, .kT [.int (xs.getD (10 : Int).toNat 0) v2, .int (xs.getD (11 : Int).toNat 0) w2], true), (p3, .kT [.int (xs.getD (12 : Int).toNat 0) v3, .int (xs.getD (13 : Int).toNat 0) w3], true), (p4, .kT [.int (xs.getD (14 : Int).toNat 0) v4, .int (xs.getD (15 : Int).toNat 0) w4], true), (l, .kI xs, false)]
    (fun _ c => c.2.1.1 < 100000000000000000000 ∧ c.2.1.2 < 100000000000000000000) ((ra₀, rb₀), (M₀, N₀), (um, un)) rfl (by walk_at "m_Sub") (by walk_at "m_sub") (fun _ q hq => by
      cases hq with
      | head => rfl
      | tail _ hq => cases hq with
        | head => rfl
        | tail _ hq => cases hq) ⟨Nat.lt_trans hM₀ (by decide), Nat.lt_trans hN₀ (by decide)⟩ ?_ ?_
  · rintro j ⟨⟨ra, rb⟩, ⟨M, N⟩, um', un'⟩ v' h₆ t₆ o I oX E' hj hv' ⟨hM, hN⟩ F₆
    dsimp only [List.nil_append, List.cons_append] at hM hN F₆ ⊢
    obtain ⟨ap, c, x, uc, ux, rfl, hmem⟩ : ∃ ap c x uc ux, v' = .ref ap ∧ ((ap, .kT [.int c uc, .int x ux], true) : Ent) ∈ ([(p1, .kT [.int (xs.getD (8 : Int).toNat 0) v1, .int (xs.getD (9 : Int).toNat 0) w1], true), (p2, .kT [.int (xs.getD (10 : Int).toNat 0) v2, .int (xs.getD (11 : Int).toNat 0) w2], true), (p3, .kT [.int (xs.getD (12 : Int).toNat 0) v3, .int (xs.getD (13 : Int).toNat 0) w3], true), (p4, .kT [.int (xs.getD (14 : Int).toNat 0) v4, .int (xs.getD (15 : Int).toNat 0) w4], true), (l, .kI xs, false)] : List Ent) := by
      rcases (show j = 0 ∨ j = 1 ∨ j = 2 ∨ j = 3 by have : j < 4 := hj; walk_at "m_n") with rfl | rfl | rfl | rfl
      · cases hv'; exact ⟨_, _, _, _, _, rfl, .head _⟩
      · cases hv'; exact ⟨_, _, _, _, _, rfl, .tail _ (.head _)⟩
      · cases hv'; exact ⟨_, _, _, _, _, rfl, .tail _ (.tail _ (.head _))⟩
      · cases hv'; exact ⟨_, _, _, _, _, rfl, .tail _ (.tail _ (.tail _ (.head _)))⟩
    have F₇ := F₆.also (r := ap) (.tail _ (.tail _ (.tail _ (.tail _ hmem)))) (fun _ x => x)
    obtain ⟨op, hop⟩ := Int.eq_ofNat_of_zero_le (show 0 ≤ c % 9 by walk_at "m_n")
    have ho8 : op ≤ 8 := by walk_at "m_n"
    refine x_unpack F₇ (Fm.has F₇ (.head _)) hh ?_
    intro h₇ F₈
    refine wpAny_assignInOrder_more ?_
    refine wpAny_assign_Name ?_
    refine r_store F₈ ?_
    intro h₈ t₈ F₉
    refine wpAny_assignInOrder_more ?_
    refine wpAny_assign_Name ?_
    refine r_store F₉ ?_
    intro h₉ t₉ G₀
    refine wpAny_assignInOrder_none ?_
    refine execs_split 5 ?_
    simp only [List.take]
    refine execs_asg ?_
    with_reducible refine wpAny_BinOp ?_
    refine r_loc (by with_reducible assumption) (by rfl) ?_
    ((with_reducible refine x_int ?_); intro _ _)
    ((with_reducible refine x_mod (by walk_at "m_n") ?_); intro _ _)
    (refine r_store (by with_reducible assumption) ?_; intro _ _ _)
    refine execs_asg ?_
    (refine r_callL4 (by with_reducible assumption) (by rfl) (by rfl) (by rfl) (by rfl) (by rfl) (by rfl) ?_; intro _ _)
    skip
    rename_i Gop _ _
    rw [hop] at Gop
    refine ⟨Fm.keep (by with_reducible assumption), law_answer_c (by with_reducible assumption) ⟨rfl, fun _ q => nomatch q⟩ (by rfl) (by assumption) hop ho8 (M := M) (by walk_at "m_mem") (N := N) (by walk_at "m_mem") hM hN rfl (hA.deeper.le (by walk_at "m_n")) ?_⟩
    intro v es g₁ s₁ hs G₁
    replace G₁ := G₁.swap
    dsimp only [List.nil_append, List.cons_append] at G₁
    (refine r_store (by with_reducible assumption) ?_; intro _ _ _)
    refine execs_asg ?_
    (refine r_callL4 (by with_reducible assumption) (by rfl) (by rfl) (by rfl) (by rfl) (by rfl) (by rfl) ?_; intro _ _)
    skip
    refine ⟨Fm.keep (by with_reducible assumption), law_due_c (by with_reducible assumption) (by rfl) (by assumption) rfl rfl rfl ho8 hM hN (hA.deeper.le (by walk_at "m_n")) ?_⟩
    intro rd v'' es' u₁ u₂ g₂ s₂ hs' G₂
    replace G₂ := G₂.swap1
    dsimp only [List.nil_append, List.cons_append] at G₂
    (refine r_store (by with_reducible assumption) ?_; intro _ _ _)
    refine execs_ifC ?_
    refine r_loc (by with_reducible assumption) (by rfl) ?_
    refine Subscript_ ?_
    refine r_loc (by with_reducible assumption) (by rfl) ?_
    ((with_reducible refine x_int ?_); intro _ _)
    refine x_itemW (by walk_at "m_has") (by rfl) (by rfl) (by decide) (by decide) ?_
    rename_i Gd _ _
    refine x_neSame (d := (sh op M N x).dat) (hs.rd (Fm.some Gd (by walk_at "m_up"))) (hs'.rd (Fm.some Gd (by walk_at "m_up"))) (Sh.lay _) hA.deeper.u ?_
    with_reducible refine wpAny_truthy_bool ?_
    with_reducible refine ite_f ?_
    with_reducible refine wpAny_execs_nil ?_
    refine execs_ifC ?_
    refine r_loc (by with_reducible assumption) (by rfl) ?_
    ((with_reducible refine x_int ?_); intro _ _)
    with_reducible refine P.eq_int ?_
    with_reducible refine wpAny_truthy_bool ?_
    refine ite_beq (fun q6 => ?_) (fun q6 => ?_)
    · obtain rfl : op = 6 := by walk_at "m_n"
      have hs2 : AnsIs (.P (M / (1 + x % 9999).toNat) (M % (1 + x % 9999).toNat)) v es := hs
      cases hs2 with
      | P _ _ rg qg ug =>
        dsimp only [List.nil_append, List.cons_append] at Gd
        with_reducible refine wpAny_execs_cons ?_
        with_reducible refine wpAny_If ?_
        with_reducible refine wpAny_isTrue_Not ?_
        refine wpAny_isTrue_Compare1 ?_
        refine r_tcall bb_type (by with_reducible assumption) (by walk_at "m_mem") ?_
        refine args_cons ?_
        refine Subscript_ ?_
        refine r_loc (by with_reducible assumption) (by rfl) ?_
        ((with_reducible refine x_int ?_); intro _ _)
        refine x_itemW (by walk_at "m_has") (by rfl) (by rfl) (by decide) (by decide) ?_
        with_reducible refine args_nil ?_
        with_reducible refine x_typeI ?_
        refine r_bi (by with_reducible assumption) (by walk_at "m_mem") bb_int ?_
        refine x_isT (c := true) (by decide) ?_
        with_reducible refine wpAny_truthy_bool ?_
        with_reducible refine ite_nt ?_
        with_reducible refine wpAny_execs_nil ?_
        with_reducible refine wpAny_execs_nil ?_
        with_reducible refine wpAny_execs_nil ?_
        skip
        refine law_turn (Fm.wk Gd (by walk_at "m_Sub") (fun _ q => q)) hs (by walk_at "m_sub") (by walk_at "m_mem") (by walk_at "m_mem") (by walk_at "m_mem") ho8 hM hN rfl ?_
        intro r₁ r₂ u u' g₃ s₃ G₃
        exact turn_next ((r₁, r₂), (_, _), (u, u')) G₃ rfl (by walk_at "m_Sub") (by walk_at "m_sub") ⟨Nat.mod_lt _ (by decide), nx_small ho8 hM hN⟩
    · with_reducible refine wpAny_execs_nil ?_
      with_reducible refine wpAny_execs_nil ?_
      skip
      refine law_turn (Fm.wk Gd (by walk_at "m_Sub") (fun _ q => q)) hs (by walk_at "m_up") (by walk_at "m_mem") (by walk_at "m_mem") (by walk_at "m_mem") ho8 hM hN rfl ?_
      intro r₁ r₂ u u' g₃ s₃ G₃
      exact turn_next ((r₁, r₂), (_, _), (u, u')) G₃ rfl (by walk_at "m_Sub") (by walk_at "m_sub") ⟨Nat.mod_lt _ (by decide), nx_small ho8 hM hN⟩
  · rintro ⟨⟨ra, rb⟩, ⟨M, N⟩, um', un'⟩ h₆ t₆ ⟨hM, hN⟩ F₆
    dsimp only [List.nil_append, List.cons_append] at hM hN F₆ ⊢
    refine execs_ifN ?_
    (refine r_callL4 (by with_reducible assumption) (by rfl) (by rfl) (by rfl) (by rfl) (by rfl) (by rfl) ?_; intro _ _)
    skip
    refine ⟨Fm.keep (by with_reducible assumption), law_holds_c (by with_reducible assumption) (by rfl) (by assumption) (M := M) (by walk_at "m_has") (N := N) (by walk_at "m_has") rfl rfl hM hN (hA.deeper.le (by walk_at "m_n")) ?_⟩
    intro h₇ t₇ F₇
    with_reducible refine wpAny_truthy_bool ?_
    with_reducible refine ite_nt ?_
    with_reducible refine wpAny_execs_nil ?_
    refine execs_ifN ?_
    (refine r_callN (by with_reducible assumption) (by rfl) (by rfl) ?_; intro _ _)
    refine args_loc (by with_reducible assumption) (by rfl) ?_
    refine args_loc (by with_reducible assumption) (by rfl) ?_
    refine args_cons ?_
    (refine x_scr (by with_reducible assumption) (by rfl) (by walk_at "m_has") (by walk_at "m_n") (by walk_at "m_n") (by walk_at "m_n") ?_; intro _ _ _)
    refine args_cons ?_
    (refine x_scr (by with_reducible assumption) (by rfl) (by walk_at "m_has") (by walk_at "m_n") (by walk_at "m_n") (by walk_at "m_n") ?_; intro _ _ _)
    with_reducible refine args_nil ?_
    skip
    refine ⟨Fm.keep (by with_reducible assumption), law_border_c (by with_reducible assumption) (by rfl) (by assumption) (M := M) (by walk_at "m_has") rfl hM (hA.deeper.le (by walk_at "m_n")) ?_⟩
    intro h₈ t₈ F₈
    with_reducible refine wpAny_truthy_bool ?_
    with_reducible refine ite_nt ?_
    with_reducible refine wpAny_execs_nil ?_
    with_reducible refine wpAny_execs_cons ?_
    with_reducible refine wpAny_Return_some ?_
    with_reducible refine x_bool ?_
    skip
    exact k _ _ (Fm.keep (by with_reducible assumption))
end
end Mine
open PySem PySem.W PyProof.Rows
set_option maxRecDepth 100000 in
set_option maxHeartbeats 8000000 in
theorem PySem.Challenge.cw_sx_ylimbs_3_holds : PySem.Challenge.rw_sx_ylimbs_3.Holds := by
  w_on; o_law; o_head Hook.none; (case hw => w_witness2)
  intro w s₀ s₁ mg mb G₀ Y fa o pm cd doc dV kV ho hd hcd hD hmg hg args vals as hpre hlay hrd hwl hlo
  k_behind G₀ ho hd hcd hD hmg hpre hlay hrd hwl hlo cd
  have G := Mine.gl_of (p := Mine.pw) (bn := ["len", "range", "max", "type", "list", "int", "str", "ValueError", "ZeroDivisionError"]) (tabs := [("_law_edges", [1, 9999, 0, 2, 5000, 9999]), ("_law_bad", [10000, -1])]) (stabs := ([] : List (Str × List Str))) ‹Top _ _ _ _ _ _› ‹Tables _ _ _ _› (by kernel_rfl) (by kernel_rfl) (by kernel_rfl) (by kernel_rfl) (by kernel_rfl)
  refine Mine.law_body (Mine.start_fm G ‹Fr _ _ _ _› ‹Heap.IsList _ _ _› ‹IntsAre _ _›) (by omega) rfl ?_
  intro h' t' hk
  exact ⟨.inl ⟨.bool true, .bool true, [], rfl, fun _ => rfl, .bool true, by kernel_rfl, unshared_nil⟩, hk, rfl, hg⟩
