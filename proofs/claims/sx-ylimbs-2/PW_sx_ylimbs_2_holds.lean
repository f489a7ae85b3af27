import PyProof.Rows.All
import Wide.All
import OpenK.AllK
import Wide.FinOn
import PySem.Challenge.RW_sx_ylimbs_2
set_option Elab.async false
set_option linter.unusedVariables false
set_option genSizeOfSpec false
set_option genInjectivity false
namespace Mine

/- base-10000 digits, the least first -/
def dg (n : Nat) : List Int := if h : n = 0 then [] else ((n % 10000 : Nat) : Int) :: dg (n / 10000)
termination_by n
decreasing_by omega
def vl : List Int → Int
  | [] => 0
  | x :: r => x + 10000 * vl r
def Ok (xs : List Int) : Prop := ∀ x ∈ xs, 0 ≤ x ∧ x < 10000

theorem dg_zero : dg 0 = [] := by rw [dg]; simp
theorem dg_pos {n : Nat} (h : n ≠ 0) : dg n = ((n % 10000 : Nat) : Int) :: dg (n / 10000) := by rw [dg]; simp [h]
theorem ok_nil : Ok [] := fun _ h => nomatch h
theorem ok_cons {x : Int} {r : List Int} : Ok (x :: r) ↔ (0 ≤ x ∧ x < 10000) ∧ Ok r := by
  unfold Ok; simp
theorem ok_append {xs ys : List Int} : Ok (xs ++ ys) ↔ Ok xs ∧ Ok ys := by
  unfold Ok; simp only [List.mem_append]
  exact ⟨fun h => ⟨fun x hx => h x (.inl hx), fun x hx => h x (.inr hx)⟩, fun h x hx => hx.elim (h.1 x) (h.2 x)⟩
theorem vl_dg (n : Nat) : vl (dg n) = n := by
  induction n using Nat.strongRecOn with
  | ind n ih =>
    by_cases h : n = 0
    · subst h; rw [dg_zero]; rfl
    · rw [dg_pos h, vl, ih (n / 10000) (by omega)]; omega
theorem ok_dg (n : Nat) : Ok (dg n) := by
  induction n using Nat.strongRecOn with
  | ind n ih =>
    by_cases h : n = 0
    · subst h; rw [dg_zero]; exact ok_nil
    · rw [dg_pos h, ok_cons]; exact ⟨by omega, ih _ (by omega)⟩
theorem dg_ne {n : Nat} (h : n ≠ 0) : dg n ≠ [] := by rw [dg_pos h]; exact List.cons_ne_nil _ _
theorem dg_nil {n : Nat} : dg n = [] ↔ n = 0 := ⟨fun h => Decidable.byContradiction fun q => dg_ne q h, fun h => by rw [h, dg_zero]⟩
theorem pw_pos (k : Nat) : (0 : Int) < 10000 ^ k := Int.pow_pos (by decide)
theorem pw_succ (k : Nat) : (10000 : Int) ^ (k + 1) = 10000 * 10000 ^ k := by rw [Int.pow_succ, Int.mul_comm]
theorem vl_nonneg : ∀ {xs : List Int}, Ok xs → 0 ≤ vl xs
  | [], _ => Int.le_refl _
  | x :: r, h => by
    rw [ok_cons] at h
    have := vl_nonneg h.2
    rw [vl]; omega
theorem vl_lt : ∀ {xs : List Int}, Ok xs → vl xs < 10000 ^ xs.length
  | [], _ => by decide
  | x :: r, h => by
    rw [ok_cons] at h
    have := vl_lt h.2
    rw [vl, List.length_cons, pw_succ]
    generalize (10000 : Int) ^ r.length = p at *
    omega
theorem vl_append : ∀ (xs ys : List Int), vl (xs ++ ys) = vl xs + 10000 ^ xs.length * vl ys
  | [], ys => by simp [vl]
  | x :: r, ys => by
    rw [List.cons_append, vl, vl_append r ys, vl, List.length_cons, pw_succ]
    rw [Int.mul_add, Int.mul_assoc]; omega
/- a list in normal form is the digits of its value -/
theorem eq_dg : ∀ {xs : List Int}, Ok xs → (xs = [] ∨ (10000 : Int) ^ (xs.length - 1) ≤ vl xs) → xs = dg (vl xs).toNat
  | [], _, _ => by rw [show (vl []).toNat = 0 from rfl, dg_zero]
  | [x], h, q => by
    rw [ok_cons] at h
    have q' : (1 : Int) ≤ vl [x] := by simpa using q
    have e : vl [x] = x := by simp [vl]
    rw [e] at q' ⊢
    rw [dg_pos (by omega), show x.toNat / 10000 = 0 by omega, dg_zero]
    congr 1; omega
  | x :: y :: r, h, q => by
    have h1 := (ok_cons.mp h)
    have h0 := vl_nonneg h1.2
    have q' : (10000 : Int) ^ (r.length + 1) ≤ vl (x :: y :: r) := by simpa using q
    have q2 : (10000 : Int) ^ (((y :: r) : List Int).length - 1) ≤ vl (y :: r) := by
      rw [vl, pw_succ] at q'
      have e : (y :: r).length - 1 = r.length := by simp
      rw [e]
      generalize (10000 : Int) ^ r.length = p at *
      generalize vl (y :: r) = v at *
      omega
    have ih := eq_dg h1.2 (.inr q2)
    have hp := pw_pos (r.length + 1)
    rw [vl] at q' ⊢
    rw [dg_pos (by omega), show (x + 10000 * vl (y :: r)).toNat / 10000 = (vl (y :: r)).toNat by omega, ← ih]
    congr 1; omega
theorem dg_norm (n : Nat) : dg n = [] ∨ (10000 : Int) ^ ((dg n).length - 1) ≤ n := by
  induction n using Nat.strongRecOn with
  | ind n ih =>
    by_cases h : n = 0
    · left; rw [h, dg_zero]
    · right
      rw [dg_pos h, List.length_cons]
      rcases ih (n / 10000) (by omega) with e | e
      · rw [e]; simp; omega
      · by_cases q : n / 10000 = 0
        · rw [q, dg_zero]; simp; omega
        · obtain ⟨y, r, hr⟩ := List.exists_cons_of_ne_nil (dg_ne q)
          rw [hr] at e ⊢
          simp only [List.length_cons, Nat.add_sub_cancel] at e ⊢
          rw [pw_succ]
          generalize (10000 : Int) ^ r.length = p at *
          omega
theorem dg_lt (n : Nat) : (n : Int) < 10000 ^ (dg n).length := by
  have := vl_lt (ok_dg n); rwa [vl_dg] at this
theorem pw_mono {a b : Nat} (h : a ≤ b) : (10000 : Int) ^ a ≤ 10000 ^ b := by
  have h1 : (10000 : Nat) ^ a ≤ 10000 ^ b := Nat.pow_le_pow_right (by decide) h
  have h2 := Int.ofNat_le.mpr h1
  rw [Int.natCast_pow, Int.natCast_pow] at h2
  exact h2
theorem pw_lt_mono {a b : Nat} (h : (10000 : Int) ^ a < 10000 ^ b) : a < b :=
  Decidable.byContradiction fun q => absurd (pw_mono (Nat.not_lt.mp q)) (Int.not_le.mpr h)
/- lengths by size -/
theorem dg_len_le {n k : Nat} (h : (n : Int) < 10000 ^ k) : (dg n).length ≤ k := by
  rcases dg_norm n with e | e
  · rw [e]; exact Nat.zero_le _
  · have := pw_lt_mono (Int.lt_of_le_of_lt e h); omega
theorem dg_inj {a b : Nat} (h : dg a = dg b) : a = b := by
  have := congrArg vl h; rw [vl_dg, vl_dg] at this; omega
theorem dg_of {xs : List Int} {n : Nat} (h : Ok xs) (v : vl xs = n) (q : xs = [] ∨ (10000 : Int) ^ (xs.length - 1) ≤ n) : xs = dg n := by
  have := eq_dg h (by rw [v]; exact q)
  rw [v] at this; simpa using this
theorem getD_lt {xs : List Int} {i : Nat} (h : i < xs.length) : xs[i]? = some (xs.getD i 0) := by simp [List.getD_eq_getElem?_getD, h]
theorem ok_getD {xs : List Int} (h : Ok xs) (i : Nat) : 0 ≤ xs.getD i 0 ∧ xs.getD i 0 < 10000 := by
  by_cases q : i < xs.length
  · exact h _ (List.mem_of_getElem? (getD_lt q))
  · rw [List.getD_eq_getElem?_getD, List.getElem?_eq_none (by omega)]; decide
theorem take_succ {xs : List Int} {i : Nat} (h : i < xs.length) : xs.take (i + 1) = xs.take i ++ [xs.getD i 0] := by
  rw [List.take_add_one, getD_lt h]; rfl
theorem vl_take_succ {xs : List Int} {i : Nat} (h : i < xs.length) : vl (xs.take (i + 1)) = vl (xs.take i) + 10000 ^ i * xs.getD i 0 := by
  rw [take_succ h, vl_append, List.length_take, Nat.min_eq_left (by omega)]; simp [vl]
theorem ok_take {xs : List Int} (h : Ok xs) (n : Nat) : Ok (xs.take n) := fun x hx => h x (List.mem_of_mem_take hx)
theorem ok_drop {xs : List Int} (h : Ok xs) (n : Nat) : Ok (xs.drop n) := fun x hx => h x (List.mem_of_mem_drop hx)
theorem vl_split (xs : List Int) (n : Nat) (h : n ≤ xs.length) : vl xs = vl (xs.take n) + 10000 ^ n * vl (xs.drop n) := by
  conv => lhs; rw [← List.take_append_drop n xs, vl_append]
  rw [List.length_take, Nat.min_eq_left h]
/- trimming -/
theorem trim_step {xs : List Int} {n : Nat} (h1 : 0 < n) (h2 : n ≤ xs.length) (z : xs.getD (n - 1) 0 = 0) : vl (xs.take (n - 1)) = vl (xs.take n) := by
  obtain ⟨k, rfl⟩ : ∃ k, n = k + 1 := ⟨n - 1, by omega⟩
  rw [vl_take_succ (by omega)]
  simp only [Nat.add_sub_cancel] at z
  rw [z]; simp
theorem trim_done {xs : List Int} {n : Nat} (ok : Ok xs) (h2 : n ≤ xs.length) (e : vl (xs.take n) = vl xs) (z : n = 0 ∨ xs.getD (n - 1) 0 ≠ 0) : xs.take n = dg (vl xs).toNat := by
  rw [← e]
  refine eq_dg (ok_take ok n) ?_
  rcases z with rfl | z
  · left; rfl
  · by_cases q : n = 0
    · left; rw [q]; rfl
    · right
      obtain ⟨k, rfl⟩ : ∃ k, n = k + 1 := ⟨n - 1, by omega⟩
      rw [vl_take_succ (by omega), List.length_take, Nat.min_eq_left (by omega)]
      simp only [Nat.add_sub_cancel] at z ⊢
      have g := ok_getD ok k
      have v := vl_nonneg (ok_take ok k)
      have p := pw_pos k
      have := Int.mul_le_mul_of_nonneg_left (show (1 : Int) ≤ xs.getD k 0 by omega) (Int.le_of_lt p)
      omega
end Mine
namespace Mine
theorem len_mono {a b : Nat} (h : a ≤ b) : (dg a).length ≤ (dg b).length := dg_len_le (Int.lt_of_le_of_lt (by omega) (dg_lt b))
theorem len_mul {a b : Nat} (h : a < 10000 * b) : (dg a).length ≤ (dg b).length + 1 := by
  refine dg_len_le ?_
  have := dg_lt b
  rw [pw_succ]
  generalize (10000 : Int) ^ (dg b).length = p at *
  omega
theorem len_add (a b : Nat) : (dg (a + b)).length ≤ max (dg a).length (dg b).length + 1 := by
  refine dg_len_le ?_
  have h1 := dg_lt a
  have h2 := dg_lt b
  have h3 := pw_mono (Nat.le_max_left (dg a).length (dg b).length)
  have h4 := pw_mono (Nat.le_max_right (dg a).length (dg b).length)
  rw [pw_succ]
  generalize (10000 : Int) ^ (max (dg a).length (dg b).length) = p at *
  omega
theorem len_prod (a b : Nat) : (dg (a * b)).length ≤ (dg a).length + (dg b).length := by
  refine dg_len_le ?_
  have h1 := dg_lt a
  have h2 := dg_lt b
  rw [Int.pow_add, Int.natCast_mul]
  have hp := pw_pos (dg a).length
  exact Int.lt_of_le_of_lt (Int.mul_le_mul_of_nonneg_right (Int.le_of_lt h1) (by omega)) (Int.mul_lt_mul_of_pos_left h2 hp)
theorem len_lt {x y : Nat} (h : (dg x).length < (dg y).length) : x < y :=
  Decidable.byContradiction fun q => by have := len_mono (Nat.not_lt.mp q); omega
theorem getD_ge {xs : List Int} {i : Nat} (h : xs.length ≤ i) : xs.getD i 0 = 0 := by
  rw [List.getD_eq_getElem?_getD, List.getElem?_eq_none h]; rfl
theorem drop_getD {xs : List Int} {i : Nat} (h : i < xs.length) : xs.drop i = xs.getD i 0 :: xs.drop (i + 1) := by
  rw [List.drop_eq_getElem_cons h, List.getD_eq_getElem?_getD, List.getElem?_eq_getElem h]; rfl
theorem vl_drop {xs : List Int} {i : Nat} (h : i < xs.length) : vl (xs.drop i) = xs.getD i 0 + 10000 * vl (xs.drop (i + 1)) := by
  rw [drop_getD h, vl]
theorem vl_take1 (xs : List Int) (i : Nat) : vl (xs.take (i + 1)) = vl (xs.take i) + 10000 ^ i * xs.getD i 0 := by
  by_cases h : i < xs.length
  · exact vl_take_succ h
  · rw [List.take_of_length_le (by omega), List.take_of_length_le (by omega), getD_ge (by omega)]; simp
theorem vl_snoc (xs : List Int) (v : Int) : vl (xs ++ [v]) = vl xs + 10000 ^ xs.length * v := by rw [vl_append]; simp [vl]
theorem ok_snoc {xs : List Int} {v : Int} (h : Ok xs) (h0 : 0 ≤ v) (h1 : v < 10000) : Ok (xs ++ [v]) := ok_append.mpr ⟨h, ok_cons.mpr ⟨⟨h0, h1⟩, ok_nil⟩⟩
theorem vl_set {xs : List Int} {k : Nat} (h : k < xs.length) (v : Int) : vl (xs.set k v) = vl xs + 10000 ^ k * (v - xs.getD k 0) := by
  induction xs generalizing k with
  | nil => simp at h
  | cons x r ih =>
    cases k with
    | zero => simp [vl]; omega
    | succ k =>
      rw [List.set_cons_succ, vl, vl, ih (by simpa using h), pw_succ]
      simp only [List.getD_cons_succ]
      rw [Int.mul_add, Int.mul_assoc]; omega
theorem ok_set {xs : List Int} (h : Ok xs) {k : Nat} {v : Int} (h0 : 0 ≤ v) (h1 : v < 10000) : Ok (xs.set k v) := fun x hx => by
  rcases List.mem_or_eq_of_mem_set hx with q | rfl
  · exact h x q
  · exact ⟨h0, h1⟩
theorem getD_set (xs : List Int) (k j : Nat) (v : Int) : (xs.set k v).getD j 0 = if k = j then (if k < xs.length then v else 0) else xs.getD j 0 := by
  rw [List.getD_eq_getElem?_getD, List.getElem?_set, List.getD_eq_getElem?_getD]
  split
  · split <;> simp_all
  · rfl
theorem ok_zeros (n : Nat) : Ok (List.replicate n 0) := fun x hx => by
  rw [List.eq_of_mem_replicate hx]; decide
theorem vl_zeros (n : Nat) : vl (List.replicate n 0) = 0 := by
  induction n with
  | zero => rfl
  | succ n ih => rw [List.replicate_succ, vl, ih]; rfl
theorem getD_zeros (n j : Nat) : (List.replicate n (0 : Int)).getD j 0 = 0 := by
  rw [List.getD_eq_getElem?_getD, List.getElem?_replicate]; split <;> rfl
theorem emod_ediv (t : Int) : t % 10000 + 10000 * (t / 10000) = t := by omega

/- comparing -/
def cmpI (x y : Nat) : Int := if x < y then -1 else if x = y then 0 else 1
theorem cmp_lt {xs ys : List Int} {i : Nat} (okx : Ok xs) (oky : Ok ys) (hl : xs.length = ys.length) (hi : i < xs.length) (hd : xs.drop (i + 1) = ys.drop (i + 1)) (lt : xs.getD i 0 < ys.getD i 0) : vl xs < vl ys := by
  rw [vl_split xs i (by omega), vl_split ys i (by omega), vl_drop hi, vl_drop (xs := ys) (by omega), hd]
  have h1 := vl_lt (ok_take okx i)
  rw [List.length_take, Nat.min_eq_left (by omega)] at h1
  have h2 := vl_nonneg (ok_take oky i)
  have h3 := Int.mul_le_mul_of_nonneg_left (show xs.getD i 0 + 10000 * vl (ys.drop (i + 1)) + 1 ≤ ys.getD i 0 + 10000 * vl (ys.drop (i + 1)) by omega) (Int.le_of_lt (pw_pos i))
  rw [Int.mul_add (10000 ^ i) (xs.getD i 0 + 10000 * vl (ys.drop (i + 1))) 1, Int.mul_one] at h3
  omega

/- adding -/
structure AddJ (xs ys tot : List Int) (c : Int) (i : Nat) : Prop where
  len : tot.length = i
  ok : Ok tot
  c0 : 0 ≤ c
  c1 : c ≤ 1
  val : vl tot + 10000 ^ i * c = vl (xs.take i) + vl (ys.take i)
theorem AddJ.step {xs ys tot : List Int} {c t : Int} {i : Nat} (J : AddJ xs ys tot c i) (okx : Ok xs) (oky : Ok ys) (ht : t = c + xs.getD i 0 + ys.getD i 0) : AddJ xs ys (tot ++ [t % 10000]) (t / 10000) (i + 1) := by
  have hx := ok_getD okx i
  have hy := ok_getD oky i
  have h0 := J.c0
  have h1 := J.c1
  refine ⟨by rw [List.length_append, J.len]; rfl, ok_snoc J.ok (by omega) (by omega), by omega, by omega, ?_⟩
  rw [vl_snoc, J.len, vl_take1, vl_take1, pw_succ]
  have e : (10000 : Int) ^ i * (t % 10000) + 10000 * 10000 ^ i * (t / 10000) = 10000 ^ i * c + 10000 ^ i * xs.getD i 0 + 10000 ^ i * ys.getD i 0 := by
    rw [Int.mul_comm 10000 (10000 ^ i), Int.mul_assoc, ← Int.mul_add, emod_ediv, ht, Int.mul_add, Int.mul_add]
  have := J.val
  omega
theorem AddJ.value {x y : Nat} {tot : List Int} {c : Int} (J : AddJ (dg x) (dg y) tot c (max (dg x).length (dg y).length)) : vl tot + 10000 ^ tot.length * c = ((x + y : Nat) : Int) := by
  have := J.val
  rw [List.take_of_length_le (by omega), List.take_of_length_le (by omega), vl_dg, vl_dg] at this
  rw [J.len]; omega
theorem AddJ.fin0 {x y : Nat} {tot : List Int} {c : Int} (J : AddJ (dg x) (dg y) tot c (max (dg x).length (dg y).length)) (hc : ¬ c > 0) : tot = dg (x + y) := by
  have v := J.value
  have h0 := J.c0
  obtain rfl : c = 0 := by omega
  rw [Int.mul_zero, Int.add_zero] at v
  refine dg_of J.ok v ?_
  by_cases q : tot = []
  · exact .inl q
  · right
    have hl := J.len
    rcases Nat.le_total (dg x).length (dg y).length with m | m
    · rw [Nat.max_eq_right m] at hl
      rw [hl]
      rcases dg_norm y with e | e
      · rw [e] at hl; exact absurd (List.length_eq_zero_iff.mp (by simpa using hl)) q
      · omega
    · rw [Nat.max_eq_left m] at hl
      rw [hl]
      rcases dg_norm x with e | e
      · rw [e] at hl; exact absurd (List.length_eq_zero_iff.mp (by simpa using hl)) q
      · omega
theorem AddJ.fin1 {x y : Nat} {tot : List Int} {c : Int} (J : AddJ (dg x) (dg y) tot c (max (dg x).length (dg y).length)) (hc : c > 0) : tot ++ [c] = dg (x + y) := by
  have v := J.value
  have h1 := J.c1
  obtain rfl : c = 1 := by omega
  refine dg_of (ok_snoc J.ok (by omega) (by omega)) (by rw [vl_snoc]; exact v) (.inr ?_)
  have := vl_nonneg J.ok
  rw [List.length_append]
  simp only [List.length_cons, List.length_nil, Nat.add_sub_cancel, Nat.zero_add] at *
  omega

/- subtracting -/
structure SubJ (xs ys rest : List Int) (c : Int) (i : Nat) : Prop where
  len : rest.length = i
  ok : Ok rest
  c0 : 0 ≤ c
  c1 : c ≤ 1
  val : vl rest - 10000 ^ i * c = vl (xs.take i) - vl (ys.take i)
theorem SubJ.step {xs ys rest : List Int} {c c' t t' : Int} {i : Nat} (J : SubJ xs ys rest c i) (okx : Ok xs) (oky : Ok ys) (ht : t = xs.getD i 0 - c - ys.getD i 0) (h : (t < 0 ∧ t' = t + 10000 ∧ c' = 1) ∨ (0 ≤ t ∧ t' = t ∧ c' = 0)) : SubJ xs ys (rest ++ [t']) c' (i + 1) := by
  have hx := ok_getD okx i
  have hy := ok_getD oky i
  have h0 := J.c0
  have h1 := J.c1
  refine ⟨by rw [List.length_append, J.len]; rfl, ok_snoc J.ok (by omega) (by omega), by omega, by omega, ?_⟩
  rw [vl_snoc, J.len, vl_take1, vl_take1, pw_succ]
  have e : (10000 : Int) ^ i * t' - 10000 * 10000 ^ i * c' = 10000 ^ i * xs.getD i 0 - 10000 ^ i * c - 10000 ^ i * ys.getD i 0 := by
    rw [Int.mul_comm 10000 (10000 ^ i), Int.mul_assoc, ← Int.mul_sub, show t' - 10000 * c' = t by omega, ht, Int.mul_sub, Int.mul_sub]
  have := J.val
  omega
theorem SubJ.fin {x y : Nat} {rest : List Int} {c : Int} (J : SubJ (dg x) (dg y) rest c (dg x).length) (h : y ≤ x) : vl rest = ((x - y : Nat) : Int) := by
  have v := J.val
  have hl := len_mono h
  rw [List.take_of_length_le (Nat.le_refl _), List.take_of_length_le hl, vl_dg, vl_dg] at v
  have h1 := vl_lt J.ok
  rw [J.len] at h1
  have h0 := J.c0
  have h2 := J.c1
  have hp := pw_pos (dg x).length
  have : c = 0 := by
    rcases (by omega : c = 0 ∨ c = 1) with e | e
    · exact e
    · rw [e, Int.mul_one] at v; omega
  rw [this, Int.mul_zero] at v
  omega

/- by one limb -/
structure MsJ (xs pr : List Int) (d c : Int) (i : Nat) : Prop where
  len : pr.length = i
  ok : Ok pr
  c0 : 0 ≤ c
  c1 : c < d
  val : vl pr + 10000 ^ i * c = d * vl (xs.take i)
theorem MsJ.step {xs pr : List Int} {d c t : Int} {i : Nat} (J : MsJ xs pr d c i) (okx : Ok xs) (hd : d < 10000) (ht : t = xs.getD i 0 * d + c) : MsJ xs (pr ++ [t % 10000]) d (t / 10000) (i + 1) := by
  have hx := ok_getD okx i
  have h0 := J.c0
  have h1 := J.c1
  have hm0 : 0 ≤ xs.getD i 0 * d := Int.mul_nonneg hx.1 (by omega)
  have hm1 : xs.getD i 0 * d ≤ 9999 * d := Int.mul_le_mul_of_nonneg_right (by omega) (by omega)
  refine ⟨by rw [List.length_append, J.len]; rfl, ok_snoc J.ok (by omega) (by omega), by omega, by omega, ?_⟩
  rw [vl_snoc, J.len, vl_take1, pw_succ]
  have e : (10000 : Int) ^ i * (t % 10000) + 10000 * 10000 ^ i * (t / 10000) = d * (10000 ^ i * xs.getD i 0) + 10000 ^ i * c := by
    rw [Int.mul_comm 10000 (10000 ^ i), Int.mul_assoc, ← Int.mul_add, emod_ediv, ht, Int.mul_add, Int.mul_left_comm d, Int.mul_comm d]
  have := J.val
  rw [Int.mul_add]
  omega
theorem MsJ.value {x d : Nat} {pr : List Int} {c : Int} (J : MsJ (dg x) pr d c (dg x).length) : vl pr + 10000 ^ pr.length * c = ((x * d : Nat) : Int) := by
  have := J.val
  rw [List.take_of_length_le (Nat.le_refl _), vl_dg] at this
  rw [J.len, this, Int.natCast_mul, Int.mul_comm]
theorem MsJ.fin0 {x d : Nat} {pr : List Int} {c : Int} (J : MsJ (dg x) pr d c (dg x).length) (hc : ¬ c > 0) : pr = dg (x * d) := by
  have v := J.value
  have h0 := J.c0
  have h1 := J.c1
  obtain rfl : c = 0 := by omega
  rw [Int.mul_zero, Int.add_zero] at v
  refine dg_of J.ok v ?_
  rcases dg_norm x with e | e
  · left; have := J.len; rw [e] at this; exact List.length_eq_zero_iff.mp this
  · right
    rw [J.len]
    have : ((x : Nat) : Int) ≤ ((x * d : Nat) : Int) := by
      have : x * 1 ≤ x * d := Nat.mul_le_mul_left x (by omega)
      omega
    omega
theorem MsJ.fin1 {x d : Nat} {pr : List Int} {c : Int} (J : MsJ (dg x) pr d c (dg x).length) (hd : d < 10000) (hc : c > 0) : pr ++ [c] = dg (x * d) := by
  have v := J.value
  have h1 := J.c1
  refine dg_of (ok_snoc J.ok (by omega) (by omega)) (by rw [vl_snoc]; exact v) (.inr ?_)
  have := vl_nonneg J.ok
  rw [List.length_append]
  simp only [List.length_cons, List.length_nil, Nat.add_sub_cancel, Nat.zero_add]
  have h2 := Int.mul_le_mul_of_nonneg_left (show (1 : Int) ≤ c by omega) (Int.le_of_lt (pw_pos pr.length))
  omega
theorem shift_dg {x k : Nat} (h : x ≠ 0) : List.replicate k 0 ++ dg x = dg (x * 10000 ^ k) := by
  refine dg_of (ok_append.mpr ⟨ok_zeros k, ok_dg x⟩) ?_ (.inr ?_)
  · rw [vl_append, vl_zeros, vl_dg, List.length_replicate, Int.natCast_mul, Int.natCast_pow, Int.mul_comm]; simp
  · rw [List.length_append, List.length_replicate, Int.natCast_mul, Int.natCast_pow]
    rcases dg_norm x with e | e
    · exact absurd e (dg_ne h)
    · have : 0 < (dg x).length := List.length_pos_iff.mpr (dg_ne h)
      rw [show k + (dg x).length - 1 = ((dg x).length - 1) + k by omega, Int.pow_add]
      exact Int.mul_le_mul_of_nonneg_right e (Int.le_of_lt (pw_pos k))
theorem mid_ok {lo hi : Nat} (h : lo < hi) : lo < (lo + hi + 1) / 2 ∧ (lo + hi + 1) / 2 ≤ hi := by omega
end Mine
namespace Mine
/- the school product: ahead of a row, within a row -/
structure RowJ (xs ys row : List Int) (i : Nat) : Prop where
  len : row.length = xs.length + ys.length
  ok : Ok row
  z : ∀ k, i + ys.length ≤ k → row.getD k 0 = 0
  val : vl row = vl (xs.take i) * vl ys
structure RowK (xs ys row : List Int) (c : Int) (i j : Nat) : Prop where
  len : row.length = xs.length + ys.length
  ok : Ok row
  c0 : 0 ≤ c
  c1 : c < 10000
  z : ∀ k, i + ys.length ≤ k → row.getD k 0 = 0
  val : vl row + 10000 ^ (i + j) * c = vl (xs.take i) * vl ys + 10000 ^ i * (xs.getD i 0 * vl (ys.take j))
theorem RowJ.start (xs ys : List Int) : RowJ xs ys (List.replicate (xs.length + ys.length) 0) 0 :=
  ⟨List.length_replicate, ok_zeros _, fun k _ => getD_zeros _ k, by rw [vl_zeros]; simp [vl]⟩
theorem RowJ.inner {xs ys row : List Int} {i : Nat} (J : RowJ xs ys row i) : RowK xs ys row 0 i 0 :=
  ⟨J.len, J.ok, by decide, by decide, J.z, by rw [J.val]; simp [vl]⟩
theorem RowK.step {xs ys row : List Int} {c t : Int} {i j : Nat} (J : RowK xs ys row c i j) (okx : Ok xs) (oky : Ok ys) (hi : i < xs.length) (hj : j < ys.length) (ht : t = row.getD (i + j) 0 + xs.getD i 0 * ys.getD j 0 + c) :
    RowK xs ys (row.set (i + j) (t % 10000)) (t / 10000) i (j + 1) := by
  have hx := ok_getD okx i
  have hy := ok_getD oky j
  have hr := ok_getD J.ok (i + j)
  have h0 := J.c0
  have h1 := J.c1
  have hm0 : 0 ≤ xs.getD i 0 * ys.getD j 0 := Int.mul_nonneg hx.1 hy.1
  have hm1 : xs.getD i 0 * ys.getD j 0 ≤ 9999 * 9999 := Int.le_trans (Int.mul_le_mul_of_nonneg_right (show xs.getD i 0 ≤ 9999 by omega) hy.1) (Int.mul_le_mul_of_nonneg_left (by omega) (by decide))
  refine ⟨by rw [List.length_set, J.len], ok_set J.ok (by omega) (by omega), by omega, by omega, fun k hk => ?_, ?_⟩
  · rw [getD_set, if_neg (by omega)]; exact J.z k hk
  · rw [vl_set (by rw [J.len]; omega), vl_take1, ← Nat.add_assoc, pw_succ, Int.mul_add (xs.getD i 0), Int.mul_add (10000 ^ i)]
    have e : (10000 : Int) ^ (i + j) * (t % 10000 - row.getD (i + j) 0) + 10000 * 10000 ^ (i + j) * (t / 10000) = 10000 ^ (i + j) * c + 10000 ^ i * (xs.getD i 0 * (10000 ^ j * ys.getD j 0)) := by
      rw [Int.mul_comm 10000 (10000 ^ (i + j)), Int.mul_assoc, ← Int.mul_add]
      rw [show t % 10000 - row.getD (i + j) 0 + 10000 * (t / 10000) = c + xs.getD i 0 * ys.getD j 0 by omega]
      rw [Int.mul_add, Int.pow_add, Int.mul_left_comm (xs.getD i 0), Int.mul_assoc (10000 ^ i) (10000 ^ j) (xs.getD i 0 * ys.getD j 0)]
    have := J.val
    omega
theorem RowK.outer {xs ys row : List Int} {c : Int} {i : Nat} (J : RowK xs ys row c i ys.length) (hi : i < xs.length) : RowJ xs ys (row.set (i + ys.length) c) (i + 1) := by
  refine ⟨by rw [List.length_set, J.len], ok_set J.ok J.c0 J.c1, fun k hk => ?_, ?_⟩
  · rw [getD_set, if_neg (by omega)]; exact J.z k (by omega)
  · rw [vl_set (by rw [J.len]; omega), J.z _ (Nat.le_refl _), vl_take1, Int.add_mul]
    have := J.val
    rw [List.take_of_length_le (Nat.le_refl _)] at this
    rw [Int.sub_zero, this, Int.mul_assoc]
theorem RowJ.fin {x y : Nat} {row : List Int} (J : RowJ (dg x) (dg y) row (dg x).length) : vl row = ((x * y : Nat) : Int) := by
  have := J.val
  rw [List.take_of_length_le (Nat.le_refl _), vl_dg, vl_dg] at this
  rw [this, Int.natCast_mul]

/- division limb by limb from above; p: how many are left -/
structure DivJ (xs q : List Int) (d r : Int) (p : Nat) : Prop where
  len : q.length = xs.length
  ok : Ok q
  r0 : 0 ≤ r
  r1 : r < d
  z : ∀ k, k < p → q.getD k 0 = 0
  val : 10000 ^ p * vl (xs.drop p) = vl q * d + 10000 ^ p * r
theorem DivJ.start (xs : List Int) {d : Int} (hd : 0 < d) : DivJ xs (List.replicate xs.length 0) d 0 xs.length :=
  ⟨List.length_replicate, ok_zeros _, by decide, hd, fun k _ => getD_zeros _ k, by rw [vl_zeros, List.drop_of_length_le (Nat.le_refl _)]; simp [vl]⟩
theorem DivJ.step {xs q : List Int} {d r t : Int} {i : Nat} (J : DivJ xs q d r (i + 1)) (okx : Ok xs) (hi : i < xs.length) (ht : t = r * 10000 + xs.getD i 0) : DivJ xs (q.set i (t / d)) d (t % d) i := by
  have hx := ok_getD okx i
  have h0 := J.r0
  have h1 := J.r1
  have hd : 0 < d := by omega
  have t0 : 0 ≤ t := by omega
  have t1 : t < d * 10000 := by
    have : (r + 1) * 10000 ≤ d * 10000 := Int.mul_le_mul_of_nonneg_right (by omega) (by decide)
    omega
  have q0 : 0 ≤ t / d := Int.ediv_nonneg t0 (by omega)
  have q1 : t / d < 10000 := Int.ediv_lt_of_lt_mul hd (by rw [Int.mul_comm]; exact t1)
  refine ⟨by rw [List.length_set, J.len], ok_set J.ok q0 q1, Int.emod_nonneg t (by omega), Int.emod_lt_of_pos t hd, fun k hk => ?_, ?_⟩
  · rw [getD_set, if_neg (by omega)]; exact J.z k (by omega)
  · rw [vl_set (by rw [J.len]; exact hi), J.z i (by omega), Int.sub_zero, vl_drop hi, Int.mul_add, Int.add_mul]
    have e : (10000 : Int) ^ i * (10000 * vl (xs.drop (i + 1))) = vl q * d + 10000 ^ i * (10000 * r) := by
      rw [← Int.mul_assoc, ← Int.mul_assoc, Int.mul_comm (10000 ^ i) 10000, ← pw_succ]; exact J.val
    have e2 : (10000 : Int) ^ i * (t / d) * d + 10000 ^ i * (t % d) = 10000 ^ i * xs.getD i 0 + 10000 ^ i * (10000 * r) := by
      rw [Int.mul_assoc, ← Int.mul_add, Int.mul_comm (t / d) d, Int.mul_ediv_add_emod, ht, Int.mul_add, Int.mul_comm r 10000]; omega
    omega
theorem DivJ.fin {x d : Nat} {q : List Int} {r : Int} (J : DivJ (dg x) q d r 0) : vl q = ((x / d : Nat) : Int) ∧ r = ((x % d : Nat) : Int) := by
  have e := J.val
  rw [List.drop_zero, vl_dg] at e
  have h0 := J.r0
  have h1 := J.r1
  have hd : (d : Int) ≠ 0 := by omega
  have e' : (x : Int) = r + d * vl q := by rw [Int.mul_comm (d : Int)]; simp at e; omega
  have q1 : (x : Int) / d = vl q := by
    rw [e', Int.add_mul_ediv_left _ _ hd, Int.ediv_eq_zero_of_lt h0 h1]; omega
  have q2 : (x : Int) % d = r := by
    rw [e', Int.add_mul_emod_self_left, Int.emod_eq_of_lt h0 h1]
  exact ⟨by rw [← q1]; rfl, by rw [← q2]; rfl⟩
theorem DivJ.small {x d : Nat} {q : List Int} {r : Int} {p : Nat} (J : DivJ (dg x) q d r p) : Ok q := J.ok

/- splitting -/
theorem split_parts {m k : Nat} (h : k ≤ (dg m).length) : vl ((dg m).take k) = ((m % 10000 ^ k : Nat) : Int) ∧ vl ((dg m).drop k) = ((m / 10000 ^ k : Nat) : Int) := by
  have e := vl_split (dg m) k h
  rw [vl_dg] at e
  have h0 := vl_nonneg (ok_take (ok_dg m) k)
  have h1 := vl_lt (ok_take (ok_dg m) k)
  rw [List.length_take, Nat.min_eq_left h] at h1
  have hp := pw_pos k
  have c : ((10000 ^ k : Nat) : Int) = 10000 ^ k := by rw [Int.natCast_pow]; rfl
  constructor
  · rw [Int.natCast_emod, c, e, Int.add_mul_emod_self_left, Int.emod_eq_of_lt h0 h1]
  · rw [Int.natCast_ediv, c, e, Int.add_mul_ediv_left _ _ (by omega), Int.ediv_eq_zero_of_lt h0 h1]; omega
theorem small_of_len {m k : Nat} (h : (dg m).length ≤ k) : m < 10000 ^ k := by
  have h1 := Int.lt_of_lt_of_le (dg_lt m) (pw_mono h)
  have c : ((10000 ^ k : Nat) : Int) = 10000 ^ k := by rw [Int.natCast_pow]; rfl
  omega
theorem split_hi (m k : Nat) : (dg m).drop k = dg (m / 10000 ^ k) := by
  by_cases h : k < (dg m).length
  · refine dg_of (ok_drop (ok_dg m) k) (split_parts (by omega)).2 (.inr ?_)
    rw [List.length_drop]
    rcases dg_norm m with e | e
    · rw [e] at h; exact absurd h (Nat.not_lt_zero _)
    · have c : ((10000 ^ k : Nat) : Int) = 10000 ^ k := by rw [Int.natCast_pow]; rfl
      rw [Int.natCast_ediv, c]
      rw [show (dg m).length - 1 = ((dg m).length - k - 1) + k by omega, Int.pow_add] at e
      exact Int.le_ediv_of_mul_le (pw_pos k) e
  · rw [List.drop_of_length_le (by omega), Nat.div_eq_of_lt (small_of_len (by omega)), dg_zero]

/- Newton's root -/
def IsRoot (m r : Nat) : Prop := r * r ≤ m ∧ m < (r + 1) * (r + 1)
theorem newton_ge {m x r : Nat} (h : IsRoot m r) (hx : 0 < x) : r ≤ (x + m / x) / 2 := by
  refine Decidable.byContradiction fun q => ?_
  have q0 : m < x * (m / x + 1) := by rw [Nat.mul_add, Nat.mul_one]; have := Nat.div_add_mod m x; have := Nat.mod_lt m hx; omega
  generalize m / x = e at *
  have q1 : (x + e) / 2 + 1 ≤ r := by omega
  have q2 : x + e + 2 ≤ 2 * r + 1 := by omega
  -- (2r - x) x ≤ r^2 ≤ m
  have q4 : e + 1 ≤ 2 * r - x := by omega
  have q5 : x * (e + 1) ≤ x * (2 * r - x) := Nat.mul_le_mul_left x q4
  have q6 : x ≤ 2 * r := by omega
  have q7 : x * (2 * r - x) ≤ r * r := by
    obtain ⟨k, hk⟩ : ∃ k, 2 * r = x + k := ⟨2 * r - x, by omega⟩
    rw [hk, Nat.add_sub_cancel_left]
    -- 4 x k ≤ (x + k)^2 = 4 r^2
    have h4 : 4 * (x * k) ≤ (x + k) * (x + k) := by
      rcases Nat.le_total x k with c | c
      · obtain ⟨e, rfl⟩ : ∃ e, k = x + e := ⟨k - x, by omega⟩
        grind
      · obtain ⟨e, rfl⟩ : ∃ e, x = k + e := ⟨x - k, by omega⟩
        grind
    have h5 : (x + k) * (x + k) = 4 * (r * r) := by rw [← hk]; grind
    omega
  have := h.1
  omega
theorem newton_stop {m x r : Nat} (h : IsRoot m r) (hx : r ≤ x) (q : x ≤ (x + m / x) / 2) : x = r := by
  have q1 : x ≤ m / x := by omega
  have q2 : x * x ≤ m := by
    have h1 : x * x ≤ x * (m / x) := Nat.mul_le_mul_left x q1
    have h2 := Nat.mul_div_le m x
    omega
  have h2 := h.2
  refine Decidable.byContradiction fun ne => ?_
  have : r + 1 ≤ x := by omega
  have := Nat.mul_le_mul this this
  omega
theorem root_unique {m r s : Nat} (h : IsRoot m r) (k : IsRoot m s) : r = s := by
  refine Decidable.byContradiction fun ne => ?_
  rcases Nat.lt_or_gt_of_ne ne with c | c
  · have : r + 1 ≤ s := c
    have := Nat.mul_le_mul this this
    have := h.2; have := k.1; omega
  · have : s + 1 ≤ r := c
    have := Nat.mul_le_mul this this
    have := k.2; have := h.1; omega
theorem root_le_sq {m r y : Nat} (h : IsRoot m r) (k : m < y * y) : r < y := by
  refine Decidable.byContradiction fun ne => ?_
  have := Nat.mul_le_mul (Nat.not_lt.mp ne) (Nat.not_lt.mp ne)
  have := h.1; omega
end Mine
namespace Mine
theorem limb_ge {n i : Nat} : 10000 ^ i ≤ n ↔ i < (dg n).length := by
  have c : ((10000 ^ i : Nat) : Int) = 10000 ^ i := by rw [Int.natCast_pow]; rfl
  constructor
  · intro h
    refine Decidable.byContradiction fun q => ?_
    have := small_of_len (m := n) (k := i) (by omega)
    omega
  · intro h
    rcases dg_norm n with e | e
    · rw [e] at h; exact absurd h (Nat.not_lt_zero _)
    · have := pw_mono (show i ≤ (dg n).length - 1 by omega)
      omega
theorem limb_at {n i : Nat} (h : i < (dg n).length) : (dg n).getD i 0 = ((n / 10000 ^ i % 10000 : Nat) : Int) := by
  have e := drop_getD h
  rw [split_hi] at e
  have hp : n / 10000 ^ i ≠ 0 := fun z => by rw [z, dg_zero] at e; cases e
  rw [dg_pos hp] at e
  exact (List.cons.inj e).1.symm
theorem limb_step {n i : Nat} (h : 10000 ^ i ≤ n) : (dg n).take i ++ [((n / 10000 ^ i % 10000 : Nat) : Int)] = (dg n).take (i + 1) := by
  have h' := limb_ge.mp h
  rw [take_succ h', limb_at h']
theorem limb_stay {n i : Nat} (h : ¬ 10000 ^ i ≤ n) : (dg n).take i = (dg n).take (i + 1) := by
  have h' : (dg n).length ≤ i := by
    refine Decidable.byContradiction fun q => h (limb_ge.mpr (by omega))
  rw [List.take_of_length_le h', List.take_of_length_le (by omega)]
end Mine
namespace Mine
/- the value of a row of decimal signs -/
def dv (cs : List Nat) : Nat := cs.foldl (fun acc c => acc * 10 + (c - 48)) 0
def Dig (cs : List Nat) : Prop := ∀ c ∈ cs, 48 ≤ c ∧ c ≤ 57
theorem dv_from : ∀ (cs : List Nat) (k : Nat), cs.foldl (fun acc c => acc * 10 + (c - 48)) k = k * 10 ^ cs.length + dv cs
  | [], k => by simp [dv]
  | c :: r, k => by
    have e : dv (c :: r) = List.foldl (fun acc c => acc * 10 + (c - 48)) (0 * 10 + (c - 48)) r := rfl
    rw [List.foldl_cons, dv_from r, e, dv_from r, List.length_cons, Nat.pow_succ, Nat.add_mul, Nat.add_mul, Nat.zero_mul, Nat.mul_assoc, Nat.mul_comm 10 (10 ^ r.length)]
    omega
theorem dv_append (a b : List Nat) : dv (a ++ b) = dv a * 10 ^ b.length + dv b := by
  have := dv_from b (dv a)
  rw [← this]; unfold dv; rw [List.foldl_append]
theorem dv_one (c : Nat) : dv [c] = c - 48 := by show 0 * 10 + (c - 48) = _; omega
theorem dig_append {a b : List Nat} : Dig (a ++ b) ↔ Dig a ∧ Dig b := by
  unfold Dig; simp only [List.mem_append]
  exact ⟨fun h => ⟨fun x hx => h x (.inl hx), fun x hx => h x (.inr hx)⟩, fun h x hx => hx.elim (h.1 x) (h.2 x)⟩
theorem dv_lt : ∀ {cs : List Nat}, Dig cs → dv cs < 10 ^ cs.length
  | [], _ => by decide
  | c :: r, h => by
    have e := dv_append [c] r
    have h1 := dv_lt (cs := r) fun x hx => h x (.tail _ hx)
    have h2 := h c (.head _)
    rw [dv_one] at e
    rw [show c :: r = [c] ++ r from rfl, e, List.length_append, List.length_singleton, Nat.add_comm 1, Nat.pow_succ]
    have h3 : (c - 48) * 10 ^ r.length ≤ 9 * 10 ^ r.length := Nat.mul_le_mul_right _ (by omega)
    omega
theorem dv_zeros : ∀ k, dv (List.replicate k 48) = 0
  | 0 => rfl
  | k + 1 => by rw [List.replicate_succ, show 48 :: List.replicate k 48 = [48] ++ List.replicate k 48 from rfl, dv_append, dv_one, dv_zeros k]; simp
theorem dig_zeros (k : Nat) : Dig (List.replicate k 48) := fun c hc => by rw [List.eq_of_mem_replicate hc]; decide
/- the text of a natural -/
def ts (n : Nat) : List Nat := (Nat.toDigits 10 n).map Char.toNat
theorem digit_code : ∀ d : Nat, d < 10 → (Nat.digitChar d).toNat = 48 + d := by decide
theorem ts_lt {n : Nat} (h : n < 10) : ts n = [48 + n] := by
  unfold ts; rw [Nat.toDigits_of_lt_base h, List.map_cons, List.map_nil, digit_code n h]
theorem ts_step {n : Nat} (h : 10 ≤ n) : ts n = ts (n / 10) ++ [48 + n % 10] := by
  have hm : n % 10 < 10 := Nat.mod_lt n (by decide)
  have t : Nat.toDigits 10 (n / 10) ++ Nat.toDigits 10 (n % 10) = Nat.toDigits 10 (10 * (n / 10) + n % 10) := Nat.toDigits_append_toDigits (by decide) (by omega) hm
  rw [Nat.div_add_mod] at t
  have := ts_lt hm
  unfold ts at this ⊢
  rw [← t, List.map_append, this]
theorem ts_ne (n : Nat) : ts n ≠ [] := by
  by_cases h : n < 10
  · rw [ts_lt h]; exact List.cons_ne_nil _ _
  · rw [ts_step (by omega)]; simp
theorem ts_dig (n : Nat) : Dig (ts n) := by
  induction n using Nat.strongRecOn with
  | ind n ih =>
    by_cases h : n < 10
    · rw [ts_lt h]; intro c hc; rw [List.mem_singleton.mp hc]; omega
    · rw [ts_step (by omega), dig_append]
      exact ⟨ih _ (by omega), fun c hc => by rw [List.mem_singleton.mp hc]; omega⟩
theorem dv_ts (n : Nat) : dv (ts n) = n := by
  induction n using Nat.strongRecOn with
  | ind n ih =>
    by_cases h : n < 10
    · rw [ts_lt h, dv_one]; omega
    · rw [ts_step (by omega), dv_append, ih _ (by omega), dv_one, List.length_singleton]; omega
theorem ts_len {n : Nat} : ∀ {k : Nat}, 0 < k → n < 10 ^ k → (ts n).length ≤ k
  | 0, h, _ => absurd h (by decide)
  | 1, _, h => by rw [ts_lt (by omega)]; exact Nat.le_refl _
  | k + 2, _, h => by
    by_cases q : n < 10
    · rw [ts_lt q]; simp
    · rw [ts_step (by omega), List.length_append, List.length_singleton]
      have := ts_len (n := n / 10) (k := k + 1) (by omega) (by rw [Nat.pow_succ] at h; omega)
      omega
/- four places -/
def p4 (r : Nat) : List Nat := [48 + r / 10 / 10 / 10, 48 + r / 10 / 10 % 10, 48 + r / 10 % 10, 48 + r % 10]
theorem ts_snoc {a d : Nat} (ha : 0 < a) (hd : d < 10) : ts (10 * a + d) = ts a ++ [48 + d] := by
  rw [ts_step (Nat.le_trans (Nat.mul_le_mul_left 10 ha) (Nat.le_add_right _ _)), Nat.mul_add_div (by decide), Nat.div_eq_of_lt hd, Nat.add_zero, Nat.mul_add_mod, Nat.mod_eq_of_lt hd]
theorem ts_p4 {q r : Nat} (hq : 0 < q) (hr : r < 10000) : ts (10000 * q + r) = ts q ++ p4 r := by
  have e : 10000 * q + r = 10 * (10 * (10 * (10 * q + r / 10 / 10 / 10) + r / 10 / 10 % 10) + r / 10 % 10) + r % 10 := by omega
  have ml : ∀ x : Nat, x % 10 < 10 := fun x => Nat.mod_lt x (by decide)
  have up : ∀ {a : Nat} (d : Nat), 0 < a → 0 < 10 * a + d := fun d h => Nat.lt_of_lt_of_le (Nat.mul_pos (by decide) h) (Nat.le_add_right _ _)
  have hd : r / 10 / 10 / 10 < 10 := by rw [Nat.div_div_eq_div_mul, Nat.div_div_eq_div_mul]; exact Nat.div_lt_of_lt_mul hr
  rw [e, ts_snoc (up _ (up _ (up _ hq))) (ml _), ts_snoc (up _ (up _ hq)) (ml _), ts_snoc (up _ hq) (ml _), ts_snoc hq hd]
  simp [p4]
theorem ts_pad {r : Nat} (hr : r < 10000) : List.replicate (4 - (ts r).length) 48 ++ ts r = p4 r := by
  have hd : r / 10 / 10 / 10 < 10 := by rw [Nat.div_div_eq_div_mul, Nat.div_div_eq_div_mul]; exact Nat.div_lt_of_lt_mul hr
  unfold p4
  by_cases h1 : r < 10
  · rw [ts_lt h1, Nat.div_eq_of_lt h1, Nat.mod_eq_of_lt h1]; rfl
  rw [ts_step (Nat.not_lt.mp h1)]
  by_cases h2 : r / 10 < 10
  · rw [ts_lt h2, Nat.div_eq_of_lt h2, Nat.mod_eq_of_lt h2]; rfl
  rw [ts_step (Nat.not_lt.mp h2)]
  by_cases h3 : r / 10 / 10 < 10
  · rw [ts_lt h3, Nat.div_eq_of_lt h3, Nat.mod_eq_of_lt h3]; rfl
  rw [ts_step (Nat.not_lt.mp h3), ts_lt hd]; rfl
/- the text of a natural by its limbs: p places are left -/
theorem ts_limb {n p : Nat} (h : p + 1 < (dg n).length) : ts (n / 10000 ^ p) = ts (n / 10000 ^ (p + 1)) ++ p4 (n / 10000 ^ p % 10000) := by
  have h1 := limb_ge.mpr h
  have hp : 0 < 10000 ^ (p + 1) := Nat.pow_pos (by decide)
  have h2 : 0 < n / 10000 ^ (p + 1) := Nat.div_pos h1 hp
  have e : n / 10000 ^ (p + 1) = n / 10000 ^ p / 10000 := by rw [Nat.pow_succ, Nat.div_div_eq_div_mul]
  rw [← ts_p4 h2 (Nat.mod_lt _ (by decide)), e, Nat.div_add_mod]
/- reading: e places are left -/
structure ReadJ (cs : List Nat) (acc : List Int) (e : Int) : Prop where
  ok : Ok acc
  hi : e ≤ cs.length
  len : acc.length ≤ cs.length
  lo : (acc.length : Int) ≤ cs.length - e
  val : vl acc + 10000 ^ acc.length * (dv (cs.take e.toNat) : Nat) = (dv cs : Nat)
theorem ReadJ.start (cs : List Nat) : ReadJ cs [] (cs.length : Nat) := ⟨ok_nil, Int.le_refl _, Nat.zero_le _, by simp, by simp [vl]⟩
theorem tn4 (k : Nat) : (((k : Nat) : Int) - 4).toNat = k - 4 := Int.toNat_sub k 4
theorem ReadJ.step {cs : List Nat} {acc : List Int} {e v : Int} (J : ReadJ cs acc e) (hd : Dig cs) (h0 : 0 < e) (hv : v = (dv ((cs.take e.toNat).drop (e - 4).toNat) : Nat)) : ReadJ cs (acc ++ [v]) (e - 4) := by
  obtain ⟨ok, hi, len, hlo, hval⟩ := J
  obtain ⟨k, rfl⟩ := Int.eq_ofNat_of_zero_le (Int.le_of_lt h0)
  rw [Int.toNat_natCast] at hv hval
  rw [tn4] at hv
  have hk := Int.ofNat_le.mp hi
  have e1 : cs.take k = cs.take (k - 4) ++ (cs.take k).drop (k - 4) := by
    have h := (List.take_append_drop (k - 4) (cs.take k)).symm
    rwa [List.take_take, Nat.min_eq_left (Nat.sub_le k 4)] at h
  have hdg : Dig ((cs.take k).drop (k - 4)) := fun c hc => hd c (List.mem_of_mem_take (List.mem_of_mem_drop hc))
  have hl : ((cs.take k).drop (k - 4)).length = k - (k - 4) := by rw [List.length_drop, List.length_take, Nat.min_eq_left hk]
  have hlt := dv_lt hdg
  have hle : (10 : Nat) ^ ((cs.take k).drop (k - 4)).length ≤ 10 ^ 4 := Nat.pow_le_pow_right (by decide) (by rw [hl]; omega)
  have hv1 : v < 10000 := by rw [hv]; exact Int.ofNat_lt.mpr (Nat.lt_of_lt_of_le hlt hle)
  have e2 : dv (cs.take k) = dv (cs.take (k - 4)) * 10000 + dv ((cs.take k).drop (k - 4)) := by
    conv => lhs; rw [e1, dv_append]
    by_cases q : 4 ≤ k
    · rw [hl, Nat.sub_sub_self q]
    · rw [Nat.sub_eq_zero_of_le (Nat.le_of_lt (Nat.not_le.mp q))]; simp [dv]
  refine ⟨ok_snoc ok (by rw [hv]; exact Int.natCast_nonneg _) hv1, by omega, ?_, ?_, ?_⟩
  · rw [List.length_append, List.length_singleton]; omega
  · rw [List.length_append, List.length_singleton]; omega
  · rw [vl_snoc, List.length_append, List.length_singleton, pw_succ, tn4]
    rw [e2, Int.natCast_add, Int.natCast_mul, ← hv, Int.mul_add, Int.mul_comm (((dv (cs.take (k - 4))) : Nat) : Int) ((10000 : Nat) : Int), ← Int.mul_assoc, Int.mul_comm (10000 ^ acc.length) ((10000 : Nat) : Int)] at hval
    rw [← hval, Int.add_assoc, Int.add_comm (10000 ^ acc.length * v)]; rfl
theorem ReadJ.fin {cs : List Nat} {acc : List Int} {e : Int} (J : ReadJ cs acc e) (h : ¬ e > 0) : vl acc = (dv cs : Nat) := by
  have := J.val
  rw [show e.toNat = 0 by omega] at this
  simpa [dv] using this
/- the root by halves: i steps are done -/
def RootJ (n i f : Nat) : Prop := f * f ≤ n ∧ n < (f + 2 ^ (27 - i)) * (f + 2 ^ (27 - i))
theorem RootJ.start {n : Nat} (h : n < 18014398509481984) : RootJ n 0 0 := ⟨by omega, by rw [Nat.zero_add]; exact h⟩
theorem two_half {i : Nat} (h : i < 27) : 2 ^ (27 - i) = 2 ^ (26 - i) + 2 ^ (26 - i) := by
  rw [show 27 - i = (26 - i) + 1 by omega, Nat.pow_succ]; omega
theorem RootJ.up {n i f : Nat} (J : RootJ n i f) (hi : i < 27) (h : (f + 2 ^ (26 - i)) * (f + 2 ^ (26 - i)) ≤ n) : RootJ n (i + 1) (f + 2 ^ (26 - i)) := by
  refine ⟨h, ?_⟩
  have := J.2
  rw [two_half hi, ← Nat.add_assoc] at this
  rwa [show 27 - (i + 1) = 26 - i by omega]
theorem RootJ.stay {n i f : Nat} (J : RootJ n i f) (h : ¬ (f + 2 ^ (26 - i)) * (f + 2 ^ (26 - i)) ≤ n) : RootJ n (i + 1) f :=
  ⟨J.1, by rw [show 27 - (i + 1) = 26 - i by omega]; exact Nat.not_le.mp h⟩
theorem RootJ.fin {n f : Nat} (J : RootJ n 27 f) : IsRoot n f := J
theorem RootJ.small {n i f : Nat} (J : RootJ n i f) (h : n < 18014398509481984) : f < 134217728 := by
  refine Decidable.byContradiction fun q => ?_
  have h1 := Nat.mul_le_mul (Nat.not_lt.mp q) (Nat.not_lt.mp q)
  have h2 := J.1
  omega
theorem two_small {i : Nat} : 2 ^ (26 - i) ≤ 67108864 := Nat.pow_le_pow_right (by decide) (show 26 - i ≤ 26 by omega)
end Mine
namespace Mine
open PySem PySem.Calls PyProof.Rows

/- a state: the base state with a heap and a count of tokens -/
abbrev St (b : Shared) (h : Heap) (t : Nat) : Shared := { b with heap := h, toks := t }
abbrev Stays (h h' : Heap) : Prop := ∀ b o, h.get? b = some o → h'.get? b = some o

/- what is known of an object -/
inductive Kd where
  | kI (ns : List Int)
  | kP (ns : List Int)
  | kE (vs : List Value)
  | kT (vs : List Value)
  | kS (l : List (Str × Tok))
  | kR (o : Obj)
  | kD (d : Data)
def KdAt (o : Obj) : Kd → Prop
  | .kI ns => ∃ vs n, o.cls = .type "list" ∧ o.data = .seq vs n ∧ IntsAre vs.toList ns
  | .kP ns => ∃ vs n, o.cls = .type "list" ∧ o.dict = none ∧ o.data = .seq vs n ∧ IntsAre vs.toList ns
  | .kE vs => ∃ n, o = { cls := .type "list", dict := none, data := .seq vs.toArray n, slots := #[] }
  | .kT vs => ∃ n, o.cls = .type "tuple" ∧ o.data = .seq vs.toArray n
  | .kS l => ∃ n, o.cls = .type "list" ∧ o.dict = none ∧ o.data = .seq (strValues l).toArray n
  | .kR o' => o = o' ∧ ∀ es n, o.data ≠ .dict es n
  | .kD d => o.data = d ∧ ∃ es n, d = .dict es n
def Is (h : Heap) (a : Addr) (K : Kd) : Prop := ∃ o, h.get? a = some o ∧ KdAt o K
theorem Is.at {h h' : Heap} {a : Addr} {K : Kd} (x : Is h a K) (e : ∀ o, h.get? a = some o → h'.get? a = some o) : Is h' a K :=
  let ⟨o, ho, r⟩ := x; ⟨o, e o ho, r⟩
theorem Is.keeps {h h' : Heap} {a : Addr} {K : Kd} (x : Is h a K) (e : Stays h h') : Is h' a K := x.at fun o => e a o
theorem Is.pl_ints {h : Heap} {a : Addr} {ns : List Int} (x : Is h a (.kP ns)) : Is h a (.kI ns) :=
  let ⟨o, ho, vs, n, c, _, d, i⟩ := x; ⟨o, ho, vs, n, c, d, i⟩
theorem Is.ex_pl {h : Heap} {a : Addr} {vs : List Value} {ns : List Int} (x : Is h a (.kE vs)) (i : IntsAre vs ns) : Is h a (.kP ns) := by
  obtain ⟨o, ho, n, rfl⟩ := x
  exact ⟨_, ho, vs.toArray, n, rfl, rfl, rfl, by simpa using i⟩
theorem Is.list {h : Heap} {a : Addr} {ns : List Int} (x : Is h a (.kI ns)) : ∃ vs : List Value, h.IsList a vs.toArray ∧ IntsAre vs ns :=
  let ⟨o, ho, vs, n, c, d, i⟩ := x; ⟨vs.toList, ⟨o, ho, c, n, by rw [d]⟩, i⟩
theorem Is.plain {h : Heap} {a : Addr} {ns : List Int} (x : Is h a (.kP ns)) : ∃ vs : List Value, PlainL h a vs.toArray ∧ IntsAre vs ns :=
  let ⟨o, ho, vs, n, c, dn, d, i⟩ := x; ⟨vs.toList, ⟨o, n, ho, c, dn, by rw [d]⟩, i⟩
theorem Is.tuple {h : Heap} {a : Addr} {vs : List Value} (x : Is h a (.kT vs)) : h.IsTuple a vs.toArray :=
  let ⟨o, ho, n, c, d⟩ := x; ⟨o, ho, c, n, d⟩
theorem Is.ofList {h : Heap} {a : Addr} {vs : Array Value} {ns : List Int} (x : h.IsList a vs) (i : IntsAre vs.toList ns) : Is h a (.kI ns) :=
  let ⟨o, ho, c, n, d⟩ := x; ⟨o, ho, vs, n, c, d, i⟩
theorem Is.ofPlain {h : Heap} {a : Addr} {vs : Array Value} {ns : List Int} (x : PlainL h a vs) (i : IntsAre vs.toList ns) : Is h a (.kP ns) :=
  let ⟨o, n, ho, c, dn, d⟩ := x; ⟨o, ho, vs, n, c, dn, d, i⟩

/- a def of the text by its place -/
def defAt (p : Program) (i : Nat) : Option (Str × Arguments × List Stmt × Scope) :=
  match p.main.body[i]? with
  | some (.FunctionDef name args body _ _ _ scope _ _ _) => some (name, args, body, scope)
  | _ => none
def FnAt (mg : Str → Option Value) (h : Heap) (d : Str × Arguments × List Stmt × Scope) : Prop :=
  ∃ a o pm code doc, mg d.1 = some (.ref a) ∧ h.get? a = some o ∧ o.data = .func (docDef d.1 d.2.1 d.2.2.1 d.2.2.2 pm code doc) ∧ h.CodeRec code d.1
/- the text's globals -/
structure Gl (p : Program) (bn : List Str) (tabs : List (Str × List Int)) (stabs : List (Str × List Str)) (mg mb : Str → Option Value) (h : Heap) : Prop where
  g : h.Ns mainGlobals mg
  b : h.Ns builtinsNs mb
  bi : ∀ x : Str, x ≠ "__name__" → mb x = bootBuiltins x
  nolimit : h.NoLimit
  fn : ∀ i d, defAt p i = some d → FnAt mg h d
  base : ∃ t, mg "BASE" = some (.int 10000 t)
  free : ∀ x ∈ bn, mg x = none
  tab : ∀ q ∈ tabs, ∃ a vs, mg q.1 = some (.ref a) ∧ Is h a (.kT vs) ∧ IntsAre vs q.2
  stab : ∀ q ∈ stabs, ∃ a vs, mg q.1 = some (.ref a) ∧ Is h a (.kT vs) ∧ StrsAre vs q.2
theorem Gl.keeps {p : Program} {bn : List Str} {tabs : List (Str × List Int)} {stabs : List (Str × List Str)} {mg mb : Str → Option Value} {h h' : Heap} (G : Gl p bn tabs stabs mg mb h) (k : Stays h h') : Gl p bn tabs stabs mg mb h' where
  g := G.g.keeps k
  b := G.b.keeps k
  bi := G.bi
  nolimit := G.nolimit.keeps k
  fn := fun i d e => let ⟨a, o, pm, code, doc, h1, h2, h3, h4⟩ := G.fn i d e; ⟨a, o, pm, code, doc, h1, k _ _ h2, h3, h4.keeps k⟩
  base := G.base
  free := G.free
  tab := fun q hq => let ⟨a, vs, h1, h2, h3⟩ := G.tab q hq; ⟨a, vs, h1, h2.keeps k, h3⟩
  stab := fun q hq => let ⟨a, vs, h1, h2, h3⟩ := G.stab q hq; ⟨a, vs, h1, h2.keeps k, h3⟩

/- what is fixed for a law -/
structure Wd where
  p : Program
  bn : List Str
  tabs : List (Str × List Int)
  stabs : List (Str × List Str)
  mg : Str → Option Value
  mb : Str → Option Value
abbrev Wd.G (W : Wd) (h : Heap) : Prop := Gl W.p W.bn W.tabs W.stabs W.mg W.mb h

def Knows (mm : Str → Option Value) (m : List (Str × Value)) : Prop := ∀ x v, m.lookup x = some v → mm x = some v
theorem Knows.put {mm : Str → Option Value} {m : List (Str × Value)} (k : Knows mm m) (x : Str) (v : Value) : Knows (fun y => if y = x then some v else mm y) ((x, v) :: m) := by
  intro y u e
  rw [List.lookup_cons] at e
  by_cases q : y = x
  · subst q; simpa using e
  · have : (y == x) = false := by simpa using q
    rw [this] at e
    simp only [if_neg q]; exact k y u e
def Sub : List (Str × Value) → List (Str × Value) → Prop
  | [], _ => True
  | (x, v) :: r, m => m.lookup x = some v ∧ Sub r m
theorem Sub.look : ∀ {m' m : List (Str × Value)}, Sub m' m → ∀ {x : Str} {v : Value}, m'.lookup x = some v → m.lookup x = some v
  | [], _, _, _, _, e => by cases e
  | (y, u) :: r, m, ⟨h1, h2⟩, x, v, e => by
    rw [List.lookup_cons] at e
    cases q : x == y with
    | true => rw [q] at e; rw [eq_of_beq q]; simpa using h1.trans (by simpa using e)
    | false => rw [q] at e; exact h2.look e
theorem Knows.sub {mm : Str → Option Value} {m m' : List (Str × Value)} (k : Knows mm m) (s : Sub m' m) : Knows mm m' := fun x v e => k x v (s.look e)

/- an entry: where, what, and whether it is new (not in the base) -/
abbrev Ent := Addr × Kd × Bool
/- new, or known in the base already -/
def Home (h₀ : Heap) (q : Ent) : Prop := match q.2.2 with
  | true => h₀.get? q.1 = none
  | false => Is h₀ q.1 q.2.1
/- the frame: its base, its locals, the one list it changes, what it knows -/
structure Fm (W : Wd) (h₀ : Heap) (L : Addr) (dl : Option (Addr × Kd)) (h : Heap) (m : List (Str × Value)) (led : List Ent) : Prop where
  gl : W.G h₀
  ns : ∃ mm, h.Ns L mm ∧ Knows mm m
  keep : Stays h₀ h
  above : h₀.objs.size ≤ L
  own : ∀ d, dl = some d → h₀.get? d.1 = none ∧ d.1 ≠ L ∧ Is h d.1 d.2
  objs : ∀ q ∈ led, Is h q.1 q.2.1 ∧ q.1 ≠ L ∧ (∀ d, dl = some d → q.1 ≠ d.1) ∧ Home h₀ q

section
variable {W : Wd} {h₀ h h' : Heap} {L : Addr} {dl : Option (Addr × Kd)} {m m' : List (Str × Value)} {led led' : List Ent}
theorem Fm.wk (F : Fm W h₀ L dl h m led) (s : Sub m' m) (t : ∀ q ∈ led', q ∈ led) : Fm W h₀ L dl h m' led' :=
  ⟨F.gl, let ⟨mm, a, b⟩ := F.ns; ⟨mm, a, b.sub s⟩, F.keep, F.above, F.own, fun q hq => F.objs q (t q hq)⟩
theorem Fm.wkl (F : Fm W h₀ L dl h m led) (t : ∀ q ∈ led', q ∈ led) : Fm W h₀ L dl h m led' := ⟨F.gl, F.ns, F.keep, F.above, F.own, fun q hq => F.objs q (t q hq)⟩
theorem Fm.fresh (F : Fm W h₀ L dl h m led) : h₀.get? L = none := by
  cases e : h₀.get? L with
  | none => rfl
  | some o => exact absurd (Heap.lt_size e) (Nat.not_lt.mpr F.above)
theorem Fm.glob (F : Fm W h₀ L dl h m led) : W.G h := F.gl.keeps F.keep
theorem Fm.lget (F : Fm W h₀ L dl h m led) : ∃ o, h.get? L = some o := let ⟨_, ⟨o, _, _, e, _⟩, _⟩ := F.ns; ⟨o, e⟩
theorem none_of {h h' : Heap} {r : Addr} (k : Stays h h') (n : h'.get? r = none) : h.get? r = none := by
  cases e : h.get? r with
  | none => rfl
  | some o => rw [k _ _ e] at n; cases n
/- the heap grows: all stays -/
theorem Fm.after (F : Fm W h₀ L dl h m led) (k : Stays h h') : Fm W h₀ L dl h' m led :=
  ⟨F.gl, let ⟨mm, a, b⟩ := F.ns; ⟨mm, a.keeps k, b⟩, fun b o e => k b o (F.keep b o e), F.above, fun d e => ⟨(F.own d e).1, (F.own d e).2.1, (F.own d e).2.2.keeps k⟩,
    fun q hq => ⟨(F.objs q hq).1.keeps k, (F.objs q hq).2⟩⟩
/- a new object -/
theorem Fm.add {r : Addr} {K : Kd} (F : Fm W h₀ L dl h m led) (k : Stays h h') (n : h.get? r = none) (i : Is h' r K) : Fm W h₀ L dl h' m ((r, K, true) :: led) :=
  let F' := F.after k
  ⟨F'.gl, F'.ns, F'.keep, F'.above, F'.own, fun q hq => by
    rcases List.mem_cons.mp hq with rfl | hq
    · refine ⟨i, fun e => ?_, fun d hd e => ?_, none_of F.keep n⟩
      · obtain ⟨o, ho⟩ := F.lget; simp only at e; rw [e, ho] at n; cases n
      · obtain ⟨o, ho, _⟩ := (F.own d hd).2.2; simp only at e; rw [e, ho] at n; cases n
    · exact F'.objs q hq⟩
/- an object that is known already, known otherwise -/
theorem Fm.also {r : Addr} {K K' : Kd} {n : Bool} (F : Fm W h₀ L dl h m led) (q : (r, K, n) ∈ led) (i : ∀ h, Is h r K → Is h r K') : Fm W h₀ L dl h m ((r, K', n) :: led) :=
  ⟨F.gl, F.ns, F.keep, F.above, F.own, fun p hp => by
    rcases List.mem_cons.mp hp with rfl | hp
    · have O := F.objs _ q
      refine ⟨i _ O.1, O.2.1, O.2.2.1, ?_⟩
      cases n with
      | true => exact O.2.2.2
      | false => exact i _ O.2.2.2
    · exact F.objs p hp⟩
theorem Fm.has {a : Addr} {K : Kd} {n : Bool} (F : Fm W h₀ L dl h m led) (q : (a, K, n) ∈ led) : Is h a K := (F.objs _ q).1
theorem Fm.hasD {a : Addr} {K : Kd} (F : Fm W h₀ L (some (a, K)) h m led) : Is h a K := (F.own _ rfl).2.2
/- a store into the locals -/
theorem Fm.store {x : Str} {v : Value} (F : Fm W h₀ L dl h m led) {mm : Str → Option Value} (k : Knows mm m) (n : h'.Ns L (fun y => if y = x then some v else mm y)) (s : Heap.SameBut L h h') : Fm W h₀ L dl h' ((x, v) :: m) led :=
  ⟨F.gl, ⟨_, n, k.put x v⟩, fun b o e => (s.2 b fun q => by subst q; rw [F.fresh] at e; cases e).trans (F.keep b o e), F.above,
    fun d e => ⟨(F.own d e).1, (F.own d e).2.1, (F.own d e).2.2.at fun o q => (s.2 _ (F.own d e).2.1).trans q⟩,
    fun q hq => ⟨(F.objs q hq).1.at fun o z => (s.2 _ (F.objs q hq).2.1).trans z, (F.objs q hq).2⟩⟩
/- the list at hand is changed -/
theorem Fm.change {D : Addr} {K K' : Kd} (F : Fm W h₀ L (some (D, K)) h m led) (s : Heap.SameBut D h h') (i : Is h' D K') : Fm W h₀ L (some (D, K')) h' m led :=
  have O := F.own _ rfl
  ⟨F.gl, let ⟨mm, a, b⟩ := F.ns; ⟨mm, a.sameBut s (Ne.symm O.2.1), b⟩, fun b o e => (s.2 b fun q => by subst q; rw [O.1] at e; cases e).trans (F.keep b o e), F.above,
    fun d e => by cases e; exact ⟨O.1, O.2.1, i⟩,
    fun q hq => ⟨(F.objs q hq).1.at fun o z => (s.2 _ ((F.objs q hq).2.2.1 _ rfl)).trans z, (F.objs q hq).2.1, (fun d e => by cases e; exact (F.objs q hq).2.2.1 (D, K) rfl), (F.objs q hq).2.2.2⟩⟩
/- the list at hand, known otherwise -/
theorem Fm.alsoD {D : Addr} {K K' : Kd} (F : Fm W h₀ L (some (D, K)) h m led) (i : Is h D K → Is h D K') : Fm W h₀ L (some (D, K')) h m led := F.change (.refl ..) (i F.hasD)
/- a new object becomes the list that is changed -/
theorem Fm.toD {D : Addr} {K : Kd} (F : Fm W h₀ L none h m led) (k : Stays h h') (n : h.get? D = none) (i : Is h' D K) : Fm W h₀ L (some (D, K)) h' m led :=
  let F' := F.after k
  have hL : D ≠ L := fun e => by obtain ⟨o, ho⟩ := F.lget; rw [e, ho] at n; cases n
  ⟨F'.gl, F'.ns, F'.keep, F'.above, (fun d e => by cases e; exact ⟨none_of F.keep n, hL, i⟩), fun q hq => ⟨(F'.objs q hq).1, (F'.objs q hq).2.1, (fun d e => by
    cases e; intro z; obtain ⟨o, ho, _⟩ := (F.objs q hq).1; simp only at z; rw [z, n] at ho; cases ho), (F'.objs q hq).2.2.2⟩⟩
/- the list at hand is changed no more -/
theorem Fm.unD {D : Addr} {K : Kd} (F : Fm W h₀ L (some (D, K)) h m led) : Fm W h₀ L none h m ((D, K, true) :: led) :=
  have O := F.own _ rfl
  ⟨F.gl, F.ns, F.keep, F.above, (fun _ e => nomatch e), fun q hq => by
    rcases List.mem_cons.mp hq with rfl | hq
    · exact ⟨O.2.2, O.2.1, (fun _ e => nomatch e), O.1⟩
    · exact ⟨(F.objs q hq).1, (F.objs q hq).2.1, (fun _ e => nomatch e), (F.objs q hq).2.2.2⟩⟩
/- back from a call: what the callee made -/
theorem Fm.back {L' : Addr} {dl' : Option (Addr × Kd)} {g : Heap} (F : Fm W h₀ L dl h m led) (F' : Fm W h L' dl' g m' led') {r : Addr} {K : Kd} (q : (r, K, true) ∈ led') : Fm W h₀ L dl g m ((r, K, true) :: led) :=
  F.add F'.keep (F'.objs _ q).2.2.2 (F'.objs _ q).1
theorem Fm.back2 {L' : Addr} {dl' : Option (Addr × Kd)} {g : Heap} (F : Fm W h₀ L dl h m led) (F' : Fm W h L' dl' g m' led') {r r' : Addr} {K K' : Kd} (q : (r, K, true) ∈ led') (q' : (r', K', true) ∈ led') : Fm W h₀ L dl g m ((r, K, true) :: (r', K', true) :: led) :=
  let G := F.back F' q
  let G' := F.back F' q'
  ⟨G.gl, G.ns, G.keep, G.above, G.own, fun p hp => by
    rcases List.mem_cons.mp hp with rfl | hp
    · exact G.objs _ (.head _)
    · exact G'.objs p hp⟩
theorem Fm.back3 {L' : Addr} {dl' : Option (Addr × Kd)} {g : Heap} (F : Fm W h₀ L dl h m led) (F' : Fm W h L' dl' g m' led') {r r' r'' : Addr} {K K' K'' : Kd} (q : (r, K, true) ∈ led') (q' : (r', K', true) ∈ led') (q'' : (r'', K'', true) ∈ led') :
    Fm W h₀ L dl g m ((r, K, true) :: (r', K', true) :: (r'', K'', true) :: led) :=
  let G := F.back F' q
  let G' := F.back2 F' q' q''
  ⟨G.gl, G.ns, G.keep, G.above, G.own, fun p hp => by
    rcases List.mem_cons.mp hp with rfl | hp
    · exact G.objs _ (.head _)
    · exact G'.objs p hp⟩
theorem Fm.back0 {L' : Addr} {dl' : Option (Addr × Kd)} {g : Heap} (F : Fm W h₀ L dl h m led) (F' : Fm W h L' dl' g m' led') : Fm W h₀ L dl g m led := F.after F'.keep
theorem led_rows {h₀ h : Heap} {L : Addr} : ∀ {led : List Ent}, (∀ q ∈ led, Is h q.1 q.2.1 ∧ q.1 ≠ L ∧ Home h₀ q) →
    ∃ news, News h₀ L h news ∧ ∀ h' : Heap, (∀ p ∈ news, h'.get? p.1 = some p.2) → Stays h₀ h' → ∀ q ∈ led, Is h' q.1 q.2.1
  | [], _ => ⟨[], News.nil, fun _ _ _ _ hq => nomatch hq⟩
  | (a, K, n) :: r, H => by
    obtain ⟨news, N, tr⟩ := led_rows fun q hq => H q (.tail _ hq)
    have Q := H _ (.head _)
    obtain ⟨o, ho, hk⟩ := Q.1
    cases n with
    | true =>
      refine ⟨(a, o) :: news, fun p hp => ?_, fun h' up st q hq => ?_⟩
      · rcases List.mem_cons.mp hp with rfl | hp
        · exact ⟨ho, Q.2.1, Q.2.2⟩
        · exact N p hp
      · rcases List.mem_cons.mp hq with rfl | hq
        · exact ⟨o, up _ (.head _), hk⟩
        · exact tr h' (fun p hp => up p (.tail _ hp)) st q hq
    | false =>
      refine ⟨news, N, fun h' up st q hq => ?_⟩
      rcases List.mem_cons.mp hq with rfl | hq
      · exact Is.keeps Q.2.2 st
      · exact tr h' up st q hq
/- the frame as the library's rules want it -/
theorem Fm.rows (F : Fm W h₀ L dl h m led) : ∃ mm news, Fr h₀ L h mm ∧ News h₀ L h news ∧ ∀ h' extra, Fr h₀ L h' mm → News h₀ L h' (extra ++ news) → Fm W h₀ L dl h' m led := by
  obtain ⟨mm, n, k⟩ := F.ns
  obtain ⟨news, N, tr⟩ := led_rows (h₀ := h₀) (h := h) (L := L) (led := led) fun q hq => ⟨(F.objs q hq).1, (F.objs q hq).2.1, (F.objs q hq).2.2.2⟩
  cases dl with
  | none =>
    refine ⟨mm, news, ⟨n, F.keep, F.above⟩, N, fun h' extra F' N' => ⟨F.gl, ⟨mm, F'.ns, k⟩, F'.keep, F.above, (fun _ e => nomatch e), fun q hq => ⟨?_, (F.objs q hq).2⟩⟩⟩
    exact tr h' (fun p hp => (N' p (List.mem_append_right _ hp)).1) F'.keep q hq
  | some d =>
    have O := F.own d rfl
    obtain ⟨o, ho, hk⟩ := O.2.2
    refine ⟨mm, (d.1, o) :: news, ⟨n, F.keep, F.above⟩, (fun p hp => ?_), fun h' extra F' N' => ⟨F.gl, ⟨mm, F'.ns, k⟩, F'.keep, F.above, (fun d' e => ?_), fun q hq => ⟨?_, (F.objs q hq).2⟩⟩⟩
    · rcases List.mem_cons.mp hp with rfl | hp
      · exact ⟨ho, O.2.1, O.1⟩
      · exact N p hp
    · cases e; exact ⟨O.1, O.2.1, o, (N' (d.1, o) (List.mem_append_right _ (.head _))).1, hk⟩
    · exact tr h' (fun p hp => (N' p (List.mem_append_right _ (.tail _ hp))).1) F'.keep q hq
end

/- room for calls -/
structure Rm (n : Nat) (A : Around) : Prop where
  depth : A.depth + n < 1000
  units : A.units + 3 * n + 80 < 9900
  hd : A.handled = none
theorem Rm.deeper {n : Nat} {A : Around} {env : Env} (r : Rm (n + 1) A) : Rm n (A.deeper env) :=
  ⟨by have := r.depth; show A.depth + 1 + n < 1000; omega, by have := r.units; show A.units + 3 + 3 * n + 80 < 9900; omega, r.hd⟩
theorem Rm.le {n k : Nat} {A : Around} (r : Rm n A) (h : k ≤ n) : Rm k A := ⟨by have := r.depth; omega, by have := r.units; omega, r.hd⟩
def AllIs (h : Heap) : List Ent → Prop
  | [] => True
  | q :: r => (Is h q.1 q.2.1 ∧ q.2.2 = false) ∧ AllIs h r
theorem AllIs.mem {h : Heap} {l : List Ent} (x : AllIs h l) {q : Ent} (hq : q ∈ l) : Is h q.1 q.2.1 ∧ q.2.2 = false := by
  induction l with
  | nil => cases hq
  | cons p r ih =>
    rcases List.mem_cons.mp hq with rfl | hq
    · exact x.1
    · exact ih x.2 hq
theorem new_none (h : Heap) : h.get? h.objs.size = none := by
  cases e : h.get? h.objs.size with
  | none => rfl
  | some o => exact absurd (Heap.lt_size e) (Nat.lt_irrefl _)
def Kd.notRaw : Kd → Bool
  | .kR _ => false
  | .kD _ => false
  | _ => true
theorem notRaw_cls {o : Obj} {K : Kd} (n : K.notRaw = true) (k : KdAt o K) (c : o.cls ≠ .type "list" ∧ o.cls ≠ .type "tuple") : False := by
  cases K with
  | kI ns => obtain ⟨_, _, e, _⟩ := k; exact c.1 e
  | kP ns => obtain ⟨_, _, e, _⟩ := k; exact c.1 e
  | kE vs => obtain ⟨_, e⟩ := k; exact c.1 (by rw [e])
  | kT vs => obtain ⟨_, e, _⟩ := k; exact c.2 e
  | kS l => obtain ⟨_, e, _⟩ := k; exact c.1 e
  | kR o => cases n
  | kD d => cases n
def FnRef (h : Heap) (f : Addr) (d : Str × Arguments × List Stmt × Scope) : Prop :=
  ∃ o pm code doc, h.get? f = some o ∧ o.data = .func (docDef d.1 d.2.1 d.2.2.1 d.2.2.2 pm code doc) ∧ h.CodeRec code d.1

section
variable {W : Wd} {prog : Program} {w : World} {M : Model} {A : Around} {E : Value → Shared → Prop} {b : Shared} {h₀ h : Heap} {L a : Addr} {dl : Option (Addr × Kd)} {t : Nat}
  {m : List (Str × Value)} {led : List Ent} {name : Str} {scope : Scope} {cd : Value}

theorem r_loc {x : Str} {pos : Pos} {v : Value} {Q : Value → Shared → Prop} (F : Fm W h₀ L dl h m led) (hv : m.lookup x = some v) (k : Q v (St b h t))
    (hk : scope.kind = .function := by rfl) (hl : (envOf name scope L a cd).kindOf x = some .local := by rfl) (hd : (x == ("__debug__" : Str)) = false := by decide) :
    wpAny M A (eval (.Name x pos) (envOf name scope L a cd)) Q E (St b h t) :=
  let ⟨_, n, kn⟩ := F.ns
  wpAny_Name (wpAny_loadName_local (s := St b h t) hk hl n (kn _ _ hv) k) hd
theorem r_locn {x : Str} {v : Value} {Q : Value → Shared → Prop} (F : Fm W h₀ L dl h m led) (hv : m.lookup x = some v) (k : Q v (St b h t))
    (hk : scope.kind = .function := by rfl) (hl : (envOf name scope L a cd).kindOf x = some .local := by rfl) :
    wpAny M A (loadName (envOf name scope L a cd) x) Q E (St b h t) :=
  let ⟨_, n, kn⟩ := F.ns
  wpAny_loadName_local (s := St b h t) hk hl n (kn _ _ hv) k
theorem r_store {x : Str} {v : Value} {Q : Unit → Shared → Prop} (F : Fm W h₀ L dl h m led) (k : ∀ h' t', Fm W h₀ L dl h' ((x, v) :: m) led → Q () (St b h' t'))
    (hk : scope.kind = .function := by rfl) (hl : (envOf name scope L a cd).kindOf x = some .local := by rfl) :
    wpAny M A (storeName (envOf name scope L a cd) x v) Q E (St b h t) :=
  let ⟨_, n, kn⟩ := F.ns
  wpAny_storeName_local (s := St b h t) hl n (fun h' hn hs => k h' _ (F.store kn hn hs))
    (by show (scope.kind == .class || (scope.kind == .module && L != mainGlobals)) = false; rw [hk]; rfl)
theorem r_fn {x : Str} {pos : Pos} {Q : Value → Shared → Prop} (F : Fm W h₀ L dl h m led) (i : Nat) {d : Str × Arguments × List Stmt × Scope} (hd : defAt W.p i = some d) (hx : d.1 = x) (k : ∀ f, FnRef h₀ f d → Q (.ref f) (St b h t))
    (hk : scope.kind = .function := by rfl) (hl : (envOf name scope L a cd).kindOf x = some .globalImplicit := by rfl) (hn : (x == ("__debug__" : Str)) = false := by decide) :
    wpAny M A (eval (.Name x pos) (envOf name scope L a cd)) Q E (St b h t) :=
  let ⟨f, o, pm, code, doc, h1, h2, h3, h4⟩ := F.gl.fn i d hd
  Name_function_global hk hl (loadGlobal_global (s := St b h t) (env := envOf name scope L a cd) F.glob.g (hx ▸ h1) (k f ⟨o, pm, code, doc, h2, h3, h4⟩)) hn
theorem r_base {pos : Pos} {Q : Value → Shared → Prop} (F : Fm W h₀ L dl h m led) (k : ∀ u, Q (.int 10000 u) (St b h t))
    (hk : scope.kind = .function := by rfl) (hl : (envOf name scope L a cd).kindOf "BASE" = some .globalImplicit := by rfl) :
    wpAny M A (eval (.Name "BASE" pos) (envOf name scope L a cd)) Q E (St b h t) :=
  let ⟨u, hu⟩ := F.gl.base
  Name_function_global hk hl (loadGlobal_global (s := St b h t) (env := envOf name scope L a cd) F.glob.g hu (k u))
theorem r_bi {x : Str} {pos : Pos} {v : Value} {Q : Value → Shared → Prop} (F : Fm W h₀ L dl h m led) (hx : x ∈ W.bn) (hv : bootBuiltins x = some v) (k : Q v (St b h t)) (hne : x ≠ "__name__" := by decide)
    (hk : scope.kind = .function := by rfl) (hl : (envOf name scope L a cd).kindOf x = some .globalImplicit := by rfl) (hn : (x == ("__debug__" : Str)) = false := by decide) :
    wpAny M A (eval (.Name x pos) (envOf name scope L a cd)) Q E (St b h t) :=
  Name_function_global hk hl (loadGlobal_builtin (s := St b h t) (env := envOf name scope L a cd) F.glob.g (F.gl.free x hx) F.glob.b ((F.gl.bi x hne).trans hv) k) hn
theorem r_tab {x : Str} {pos : Pos} {ns : List Int} {Q : Value → Shared → Prop} (F : Fm W h₀ L dl h m led) (hx : (x, ns) ∈ W.tabs) (k : ∀ r vs, Is h r (.kT vs) → IntsAre vs ns → Q (.ref r) (St b h t))
    (hk : scope.kind = .function := by rfl) (hl : (envOf name scope L a cd).kindOf x = some .globalImplicit := by rfl) (hn : (x == ("__debug__" : Str)) = false := by decide) :
    wpAny M A (eval (.Name x pos) (envOf name scope L a cd)) Q E (St b h t) :=
  let ⟨r, vs, h1, h2, h3⟩ := F.glob.tab _ hx
  Name_function_global hk hl (loadGlobal_global (s := St b h t) (env := envOf name scope L a cd) F.glob.g h1 (k r vs h2 h3)) hn

theorem r_stab {x : Str} {pos : Pos} {ns : List Str} {Q : Value → Shared → Prop} (F : Fm W h₀ L dl h m led) (hx : (x, ns) ∈ W.stabs) (k : ∀ r vs, Is h r (.kT vs) → StrsAre vs ns → Q (.ref r) (St b h t))
    (hk : scope.kind = .function := by rfl) (hl : (envOf name scope L a cd).kindOf x = some .globalImplicit := by rfl) (hn : (x == ("__debug__" : Str)) = false := by decide) :
    wpAny M A (eval (.Name x pos) (envOf name scope L a cd)) Q E (St b h t) :=
  let ⟨r, vs, h1, h2, h3⟩ := F.glob.stab _ hx
  Name_function_global hk hl (loadGlobal_global (s := St b h t) (env := envOf name scope L a cd) F.glob.g h1 (k r vs h2 h3)) hn

/- a call of a def of the text -/
theorem r_call {x : Str} {e : Expr} {rest : List Expr} {pos pos' : Pos} {Q : Value → Shared → Prop} (F : Fm W h₀ L dl h m led) (i : Nat) {d : Str × Arguments × List Stmt × Scope} (hd : defAt W.p i = some d) (hx : d.1 = x)
    (k : ∀ f, FnRef h₀ f d → wpAny M A (spliced (backTo pos (starEach (e :: rest) (envOf name scope L a cd)))) (fun vs s₁ => Stays h₀ s₁.heap ∧ wpAny M A (call (.ref f) vs) Q E s₁) E (St b h t))
    (he : starEach (e :: rest) (envOf name scope L a cd) = (false, eval e (envOf name scope L a cd)) :: starEach rest (envOf name scope L a cd) := by rfl)
    (he2 : eval (.Call (.Name x pos') (e :: rest) [] pos) (envOf name scope L a cd) = (do callWith pos (← eval (.Name x pos') (envOf name scope L a cd)) [] (backTo pos (starEach (e :: rest) (envOf name scope L a cd))) (backToKw pos (keywordEach [] (envOf name scope L a cd)))) := by rfl)
    (hk : scope.kind = .function := by rfl) (hl : (envOf name scope L a cd).kindOf x = some .globalImplicit := by rfl) (hn : (x == ("__debug__" : Str)) = false := by decide) :
    wpAny M A (eval (.Call (.Name x pos') (e :: rest) [] pos) (envOf name scope L a cd)) Q E (St b h t) := by
  refine Call_ (r_fn F i hd hx (fun f hf => ?_) hk hl hn) he2
  obtain ⟨o, pm, code, doc, h2, h3, h4⟩ := id hf
  exact callWith_def h3 (wpAny_mono (k f hf) (fun vs s₁ q => ⟨q.1 _ _ h2, q.2⟩) fun _ _ q => q) he

/- a def is entered -/
theorem r_enter {f : Addr} {nm : Str} {ps : Arguments} {bd : List Stmt} {sc : Scope} {vals : List Value} {Q : Value → Shared → Prop} (F : Fm W h₀ L dl h m led) (hf : FnRef h₀ f (nm, ps, bd, sc)) (hA : Rm 1 A)
    (binds : List (Str × Value)) (led₀ : List Ent) (hled : AllIs h led₀)
    (k : ∀ L' h₁ t₁ code, Fm W h L' none h₁ binds led₀ →
      wpAny (model prog w) (A.deeper (envOf nm sc L' f code)) (execs bd (envOf nm sc L' f code)) (fun fl s' => Q (match fl with | .ret v => v | _ => .none) s') (fun _ _ => False) (St b h₁ t₁))
    (hsub : Sub binds binds.reverse := by repeat (first | exact True.intro | refine ⟨rfl, ?_⟩))
    (hbind : ∀ pm code doc, bindArgs (docDef nm ps bd sc pm code doc) ⟨vals, []⟩ = pure binds := by intro _ _ _; rfl)
    (hloc : ∀ x ∈ binds, sc.names.lookup x.1 = some .local := by exact locs rfl)
    (hco : sc.isCoroutine = false := by rfl) (hgen : sc.isGenerator = false := by rfl) (hk : sc.kind = .function := by rfl)
    (hcell : ∀ x ∈ sc.names, x.2 ≠ .cell := by decide) :
    wpAny (model prog w) A (call (.ref f) vals) Q E (St b h t) := by
  obtain ⟨o, pm, code, doc, h2, h3, h4⟩ := hf
  have hfr : h.get? h.objs.size = none := new_none h
  refine wpAny_call (call_plain_ret (s := St b h t) (by have := hA.depth; show A.depth < 1000; omega) (F.keep _ _ h2) h3 F.glob.nolimit (h4.keeps F.keep) (hbind pm code doc) hloc (fun h₁ F₁ => ?_) hco hgen hk hcell)
  refine wpAny_mono (k _ h₁ _ code ⟨F.glob, ⟨_, F₁.ns, fun x v e => hsub.look e⟩, F₁.keep, F₁.above, (fun _ e => nomatch e), fun q hq => ?_⟩) (fun _ _ q => q) fun _ _ q => q
  have hi := hled.mem hq
  refine ⟨hi.1.keeps F₁.keep, fun e => ?_, (fun _ e => nomatch e), by unfold Home; rw [hi.2]; exact hi.1⟩
  obtain ⟨o', ho', _⟩ := hi.1
  rw [e] at ho'
  rw [hfr] at ho'; cases ho'

/- what a turn of a loop must come to -/
def TurnPost {σ : Type} (W : Wd) (h₀ : Heap) (L : Addr) (b : Shared) (dlO : σ → Option (Addr × Kd)) (mO : σ → List (Str × Value)) (ledO : σ → List Ent) (J : σ → Prop) (Q : Flow → Shared → Prop) (f : Flow) (s' : Shared) : Prop :=
  match f with
  | .ret v => Q (.ret v) s'
  | .brk => Q .next s'
  | _ => ∃ c h' t', s' = St b h' t' ∧ Fm W h₀ L (dlO c) h' (mO c) (ledO c) ∧ J c

theorem r_while {σ : Type} {test : Expr} {body : List Stmt} {pos : Pos} {Q : Flow → Shared → Prop} (dlO : σ → Option (Addr × Kd)) (mO : σ → List (Str × Value)) (ledO : σ → List Ent) (J : σ → Prop) (μ : σ → Nat) (c₀ : σ)
    (F : Fm W h₀ L (dlO c₀) h (mO c₀) (ledO c₀)) (hJ : J c₀)
    (turn : ∀ c h t (E' : Value → Shared → Prop), J c → Fm W h₀ L (dlO c) h (mO c) (ledO c) →
      wpAny (model prog w) A (isTrue test (envOf name scope L a cd) (eval test (envOf name scope L a cd))) (fun bv s₂ => if bv then
        wpAny (model prog w) A (execs body (envOf name scope L a cd)) (TurnPost W h₀ L b dlO mO ledO (fun c' => J c' ∧ μ c' < μ c) Q) E' s₂ else Q .next s₂) E' (St b h t)) :
    wpAny (model prog w) A (exec (.While test body [] pos) (envOf name scope L a cd)) Q E (St b h t) := by
  refine wpAny_While (codeAny_whileLoop (fun n s' => ∃ c h' t', n = μ c ∧ s' = St b h' t' ∧ Fm W h₀ L (dlO c) h' (mO c) (ledO c) ∧ J c) ?_ (μ c₀) ⟨c₀, h, t, rfl, rfl, F, hJ⟩)
  rintro n s' ⟨c, h', t', rfl, rfl, F', hJ'⟩
  refine wpAny_mono (turn c h' t' _ hJ' F') (fun bv s₂ q => ?_) fun _ _ q => q
  cases bv with
  | false => simp only [Bool.false_eq_true, if_false] at q ⊢; exact wpAny_execs_nil q
  | true =>
    simp only [if_true] at q ⊢
    refine wpAny_mono q (fun f s₃ q => ?_) fun _ _ q => q
    cases f with
    | ret v => exact q
    | brk => exact q
    | next => obtain ⟨c', h'', t'', rfl, F'', hJ'', hm⟩ := q; exact ⟨μ c', hm, c', h'', t'', rfl, rfl, F'', hJ''⟩
    | cont => obtain ⟨c', h'', t'', rfl, F'', hJ'', hm⟩ := q; exact ⟨μ c', hm, c', h'', t'', rfl, rfl, F'', hJ''⟩

/- a loop along an iterator -/
theorem r_walkE {σ : Type} {target : Expr} {body : List Stmt} {R : Result → Shared → Prop} {I ax : Addr} {fp : List Addr} {n : Nat} {P : Nat → Value → Prop} {St' : Nat → Heap → Prop} {oI oX : Obj} {nX : Bool}
    (Wk : Walks prog w A I fp [I] n P St') (hfp : ∀ c ∈ fp, c = I ∨ c = ax) (hax : ax ≠ I)
    (dlO : σ → Option (Addr × Kd)) (mO : σ → List (Str × Value)) (newO : σ → List Ent) (J : Nat → σ → Prop) (c₀ : σ)
    (F : Fm W h₀ L (dlO c₀) h (mO c₀) (newO c₀ ++ led)) (hst : St' 0 h) (hI : h₀.get? I = none) (hIL : I ≠ L) (hID : ∀ d, dlO c₀ = some d → I ≠ d.1) (hIo : h.get? I = some oI) (hXo : h.get? ax = some oX) (hXL : ax ≠ L) (hXD : ∀ d, dlO c₀ = some d → ax ≠ d.1) (hXH : Home h₀ (ax, .kR oX, nX))
    (hcls : oI.cls ≠ .type "list" ∧ oI.cls ≠ .type "tuple") (hStc : ∀ i h o, St' i h → h.get? I = some o → o.cls = oI.cls) (hStg : ∀ i h, St' i h → ∃ o, h.get? I = some o ∧ ∀ es n, o.data ≠ .dict es n) (hXd : ∀ es n, oX.data ≠ .dict es n)
    (hled : ∀ q ∈ led, q.1 ≠ I) (hnew : ∀ c, ∀ q ∈ newO c, q.2.1.notRaw = true) (hJ : J 0 c₀)
    (E' : Value → Shared → Prop) (hE' : ∀ e s', E' e s' → notedBy (model prog w) A (envOf name scope L a cd) (fun e s' => R (.error e) s') e s')
    (turn : ∀ i c v h t o, i < n → P i v → J i c → Fm W h₀ L (dlO c) h (mO c) ((I, .kR o, true) :: (ax, .kR oX, nX) :: (newO c ++ led)) →
      wpAny (model prog w) A (assign target (envOf name scope L a cd) v) (fun _ s₂ => wpAny (model prog w) A (execs body (envOf name scope L a cd))
        (TurnPost W h₀ L b dlO mO (fun c' => (I, .kR o, true) :: (ax, .kR oX, nX) :: (newO c' ++ led)) (J (i + 1)) (fun f s' => R (.ok f) s')) E' s₂) E' (St b h t))
    (done : ∀ c h t, J n c → Fm W h₀ L (dlO c) h (mO c) (newO c ++ led) → R (.ok .next) (St b h t))
    (hgo : ∀ i v (s' : Shared) (Q' : Unit → Shared → Prop) (E' : Value → Shared → Prop), St' i s'.heap → Q' () s' → wpAny (model prog w) A (letOwnedTupleGo target (.ref I) v) Q' E' s') :
    codeAny (model prog w) A (.forLoop target (.ref I) body [] (envOf name scope L a cd)) R (St b h t) := by
  refine codeAny_forLoop_any (fun k s' => ∃ i c h' t', k = n + 1 - i ∧ i ≤ n ∧ s' = St b h' t' ∧ Fm W h₀ L (dlO c) h' (mO c) (newO c ++ led) ∧ J i c ∧ St' i h' ∧ (∀ d, dlO c = some d → I ≠ d.1) ∧ h'.get? ax = some oX ∧ (∀ d, dlO c = some d → ax ≠ d.1)) ?_ (n + 1)
    ⟨0, c₀, h, t, rfl, Nat.zero_le _, rfl, F, hJ, hst, hID, hXo, hXD⟩
  rintro k s' ⟨i, c, h', t', rfl, hi, rfl, F', hJ', hst', hD, hX', hXD'⟩
  have off : ∀ q ∈ newO c ++ led, q.1 ≠ I := fun q hq e => by
    rcases List.mem_append.mp hq with hq' | hq'
    · obtain ⟨o, ho, hk⟩ := (F'.objs q hq).1
      rw [e] at ho
      have hc := hStc _ _ _ hst' ho
      exact notRaw_cls (hnew c q hq') hk (hc ▸ hcls)
    · exact hled q hq' e
  have mv : ∀ {h₁ : Heap}, (∀ b o, b ∉ [I] → h'.get? b = some o → h₁.get? b = some o) → Fm W h₀ L (dlO c) h₁ (mO c) (newO c ++ led) := fun {h₁} hk =>
    have up : ∀ z, z ≠ I → ∀ o, h'.get? z = some o → h₁.get? z = some o := fun z hz o e => hk z o (fun q => hz (List.mem_singleton.mp q)) e
    ⟨F'.gl, (let ⟨mm, x, y⟩ := F'.ns; ⟨mm, x.at' fun o e => up L (Ne.symm hIL) o e, y⟩), (fun z o e => up z (fun q => by rw [q, hI] at e; cases e) o (F'.keep z o e)), F'.above,
      (fun d e => ⟨(F'.own d e).1, (F'.own d e).2.1, (F'.own d e).2.2.at fun o z => up _ (Ne.symm (hD d e)) o z⟩), fun q hq => ⟨(F'.objs q hq).1.at fun o z => up _ (off q hq) o z, (F'.objs q hq).2⟩⟩
  by_cases hlt : i < n
  · refine Wk.item i _ _ _ hlt hst' fun v h₁ tk₁ hP hst₁ hk₁ => ?_
    have F₁ := mv hk₁
    obtain ⟨o₁, ho₁, hd₁⟩ := hStg _ _ hst₁
    have hX₁ : h₁.get? ax = some oX := hk₁ ax oX (fun q => hax (List.mem_singleton.mp q)) hX'
    have F₂ : Fm W h₀ L (dlO c) h₁ (mO c) ((I, .kR o₁, true) :: (ax, .kR oX, nX) :: (newO c ++ led)) := ⟨F₁.gl, F₁.ns, F₁.keep, F₁.above, F₁.own, fun q hq => by
      rcases List.mem_cons.mp hq with rfl | hq
      · exact ⟨⟨o₁, ho₁, rfl, hd₁⟩, hIL, hD, hI⟩
      · rcases List.mem_cons.mp hq with rfl | hq
        · exact ⟨⟨oX, hX₁, rfl, hXd⟩, hXL, hXD', hXH⟩
        · exact F₁.objs q hq⟩
    refine hgo (i + 1) v _ _ _ hst₁ ?_
    refine wpAny_mono (turn i c v h₁ tk₁ o₁ hlt hP hJ' F₂) (fun _ s₂ q => wpAny_mono q (fun f s₃ q => ?_) hE') hE'
    have fin : (∃ c' h'' t'', s₃ = St b h'' t'' ∧ Fm W h₀ L (dlO c') h'' (mO c') ((I, .kR o₁, true) :: (ax, .kR oX, nX) :: (newO c' ++ led)) ∧ J (i + 1) c') → ∃ m, m < n + 1 - i ∧ ∃ i c h' t', m = n + 1 - i ∧ i ≤ n ∧ s₃ = St b h' t' ∧ Fm W h₀ L (dlO c) h' (mO c) (newO c ++ led) ∧ J i c ∧ St' i h' ∧ (∀ d, dlO c = some d → I ≠ d.1) ∧ h'.get? ax = some oX ∧ (∀ d, dlO c = some d → ax ≠ d.1) := by
      rintro ⟨c', h'', t'', rfl, F'', hJ''⟩
      obtain ⟨x1, hx1, e1⟩ := (F''.objs (I, .kR o₁, true) (.head _)).1
      obtain ⟨x2, hx2, e2⟩ := (F''.objs (ax, .kR oX, nX) (.tail _ (.head _))).1
      simp only [KdAt] at e1 e2
      obtain ⟨e1, _⟩ := e1
      obtain ⟨e2, _⟩ := e2
      subst e1; subst e2
      refine ⟨n + 1 - (i + 1), by omega, i + 1, c', h'', t'', rfl, hlt, rfl, F''.wkl (fun q hq => .tail _ (.tail _ hq)), hJ'', Wk.frame _ _ _ hst₁ fun z hz o e => ?_, fun d e => (F''.objs _ (.head _)).2.2.1 d e, hx2, fun d e => (F''.objs _ (.tail _ (.head _))).2.2.1 d e⟩
      rcases hfp z hz with rfl | rfl
      · rw [ho₁] at e; cases e; exact hx1
      · rw [hX₁] at e; cases e; exact hx2
    cases f with
    | ret v => exact q
    | brk => exact q
    | next => exact fin q
    | cont => exact fin q
  · have hin : i = n := by omega
    subst hin
    exact Wk.done _ _ _ hst' fun h₁ tk₁ hk₁ => wpAny_execs_nil (done c h₁ tk₁ hJ' (mv hk₁))
theorem r_walk {σ : Type} {target : Expr} {body : List Stmt} {R : Result → Shared → Prop} {I ax : Addr} {fp : List Addr} {n : Nat} {P : Nat → Value → Prop} {St' : Nat → Heap → Prop} {oI oX : Obj} {nX : Bool}
    (Wk : Walks prog w A I fp [I] n P St') (hfp : ∀ c ∈ fp, c = I ∨ c = ax) (hax : ax ≠ I)
    (dlO : σ → Option (Addr × Kd)) (mO : σ → List (Str × Value)) (newO : σ → List Ent) (J : Nat → σ → Prop) (c₀ : σ)
    (F : Fm W h₀ L (dlO c₀) h (mO c₀) (newO c₀ ++ led)) (hst : St' 0 h) (hI : h₀.get? I = none) (hIL : I ≠ L) (hID : ∀ d, dlO c₀ = some d → I ≠ d.1) (hIo : h.get? I = some oI) (hXo : h.get? ax = some oX) (hXL : ax ≠ L) (hXD : ∀ d, dlO c₀ = some d → ax ≠ d.1) (hXH : Home h₀ (ax, .kR oX, nX))
    (hcls : oI.cls ≠ .type "list" ∧ oI.cls ≠ .type "tuple") (hStc : ∀ i h o, St' i h → h.get? I = some o → o.cls = oI.cls) (hStg : ∀ i h, St' i h → ∃ o, h.get? I = some o ∧ ∀ es n, o.data ≠ .dict es n) (hXd : ∀ es n, oX.data ≠ .dict es n)
    (hled : ∀ q ∈ led, q.1 ≠ I) (hnew : ∀ c, ∀ q ∈ newO c, q.2.1.notRaw = true) (hJ : J 0 c₀)
    (turn : ∀ i c v h t o (E' : Value → Shared → Prop), i < n → P i v → J i c → Fm W h₀ L (dlO c) h (mO c) ((I, .kR o, true) :: (ax, .kR oX, nX) :: (newO c ++ led)) →
      wpAny (model prog w) A (assign target (envOf name scope L a cd) v) (fun _ s₂ => wpAny (model prog w) A (execs body (envOf name scope L a cd))
        (TurnPost W h₀ L b dlO mO (fun c' => (I, .kR o, true) :: (ax, .kR oX, nX) :: (newO c' ++ led)) (J (i + 1)) (fun f s' => R (.ok f) s')) E' s₂) E' (St b h t))
    (done : ∀ c h t, J n c → Fm W h₀ L (dlO c) h (mO c) (newO c ++ led) → R (.ok .next) (St b h t))
    (hgo : ∀ i v (s' : Shared) (Q' : Unit → Shared → Prop) (E' : Value → Shared → Prop), St' i s'.heap → Q' () s' → wpAny (model prog w) A (letOwnedTupleGo target (.ref I) v) Q' E' s') :
    codeAny (model prog w) A (.forLoop target (.ref I) body [] (envOf name scope L a cd)) R (St b h t) :=
  r_walkE Wk hfp hax dlO mO newO J c₀ F hst hI hIL hID hIo hXo hXL hXD hXH hcls hStc hStg hXd hled hnew hJ _ (fun _ _ q => q) (fun i c v h t o => turn i c v h t o _) done hgo
end
end Mine
namespace Mine
open PySem PySem.Calls PyProof.Rows

theorem fdiv_pos {a b : Int} (h : 0 < b) : a.fdiv b = a / b := Int.fdiv_eq_ediv_of_nonneg a (by omega)
theorem fmod_pos {a b : Int} (h : 0 < b) : a.fmod b = a % b := Int.fmod_eq_emod_of_nonneg a (by omega)
theorem log2_small {y : Int} (h1 : 0 < y) (h2 : y < 10 ^ 2000) : y.natAbs.log2 < 9000 := by
  have h3 : y.natAbs ≠ 0 := by omega
  refine (Nat.log2_lt h3).mpr ?_
  have h4 : (10 : Int) ^ 2000 ≤ 2 ^ 9000 := by decide +kernel
  have h5 : y < 2 ^ 9000 := Int.lt_of_lt_of_le h2 h4
  have h6 : (y.natAbs : Int) = y := by omega
  have h7 : ((2 ^ 9000 : Nat) : Int) = 2 ^ 9000 := by rw [Int.natCast_pow]; rfl
  have h8 : (y.natAbs : Int) < ((2 ^ 9000 : Nat) : Int) := by rw [h6, h7]; exact h5
  exact Int.ofNat_lt.mp h8

section
variable {W : Wd} {prog : Program} {w : World} {M : Model} {A : Around} {E : Value → Shared → Prop} {b : Shared} {h₀ h : Heap} {L a : Addr} {dl : Option (Addr × Kd)} {t : Nat}
  {m : List (Str × Value)} {led : List Ent} {name : Str} {scope : Scope} {cd : Value} {env : Env} {i j : Int} {u₁ u₂ : Tok} {Q : Value → Shared → Prop}

theorem x_int {n : Int} {k : Nat} {pos : Pos} (q : ∀ u t', Q (.int n u) (St b h t')) : wpAny M A (eval (.Constant (.int n) k pos) env) Q E (St b h t) := wpAny_Constant_int (s := St b h t) (q _ _)
theorem x_str {x : Str} {k : Nat} {pos : Pos} (q : ∀ u t', Q (.str x u) (St b h t')) : wpAny M A (eval (.Constant (.str x) k pos) env) Q E (St b h t) := Constant_str (s := St b h t) (q _ _)
theorem x_bool {c : Bool} {k : Nat} {pos : Pos} (q : Q (.bool c) (St b h t)) : wpAny M A (eval (.Constant (.bool c) k pos) env) Q E (St b h t) := wpAny_Constant_bool q
theorem x_add (q : ∀ u t', Q (.int (i + j) u) (St b h t')) : wpAny (model prog w) A (binaryOp .Add (.int i u₁) (.int j u₂)) Q E (St b h t) := P.add_int (s := St b h t) (q _ _)
theorem x_sub (q : ∀ u t', Q (.int (i - j) u) (St b h t')) : wpAny (model prog w) A (binaryOp .Sub (.int i u₁) (.int j u₂)) Q E (St b h t) := P.sub_int (s := St b h t) (q _ _)
theorem x_iadd (q : ∀ u t', Q (.int (i + j) u) (St b h t')) : wpAny (model prog w) A (inplaceOp .Add (.int i u₁) (.int j u₂)) Q E (St b h t) := P.iadd_int (s := St b h t) (q _ _)
theorem x_isub (q : ∀ u t', Q (.int (i - j) u) (St b h t')) : wpAny (model prog w) A (inplaceOp .Sub (.int i u₁) (.int j u₂)) Q E (St b h t) := P.isub_int (s := St b h t) (q _ _)
theorem x_mul (hm : IntMulOk i j) (q : ∀ u t', Q (.int (i * j) u) (St b h t')) : wpAny (model prog w) A (binaryOp .Mult (.int i u₁) (.int j u₂)) Q E (St b h t) := P.mul_int (s := St b h t) (q _ _) hm
theorem x_div (h1 : 0 < j) (h2 : j < 1000000000000000000000000000000000000000000000000000000000000) (q : ∀ u t', Q (.int (i / j) u) (St b h t')) : wpAny (model prog w) A (binaryOp .FloorDiv (.int i u₁) (.int j u₂)) Q E (St b h t) :=
  floordiv_int (s := St b h t) (by omega) (by rw [fdiv_pos h1]; exact q _ _) (.inl (PyProof.noPylong_of_log2 (log2_small h1 (Int.lt_trans h2 (by decide +kernel)))))
theorem x_mod (h1 : 0 < j) (q : ∀ u t', Q (.int (i % j) u) (St b h t')) : wpAny (model prog w) A (binaryOp .Mod (.int i u₁) (.int j u₂)) Q E (St b h t) :=
  mod_int' (s := St b h t) (by omega) (by rw [fmod_pos h1]; exact q _ _)
theorem x_pow (h1 : 0 ≤ j) (h2 : (Builtin.Int.intBits i : Int) * j ≤ 2 ^ 27) (q : ∀ u t', Q (.int (i ^ j.toNat) u) (St b h t')) : wpAny (model prog w) A (binaryOp .Pow (.int i u₁) (.int j u₂)) Q E (St b h t) :=
  pow_int (s := St b h t) h1 h2 (q _ _)
theorem x_neg (q : ∀ u t', Q (.int (-i) u) (St b h t')) : wpAny (model prog w) A (unaryOp .USub (.int i u₁)) Q E (St b h t) := P.neg_int (s := St b h t) (q _ _)

/- len of a list of ints -/
theorem x_len {l : Addr} {ns : List Int} (x : Is h l (.kI ns)) (hn : ns.length < 2 ^ 62) (q : ∀ u t', Q (.int (ns.length : Nat) u) (St b h t')) : wpAny (model prog w) A (call (.builtin "len") [.ref l]) Q E (St b h t) := by
  obtain ⟨vs, hl, hi⟩ := x.list
  have e : vs.toArray.size = ns.length := by simp [hi.length]
  refine call_len_list (s := St b h t) hl (by omega) ?_
  rw [e]; exact q _ _
/- an item of a list of ints -/
theorem x_item {value slice : Expr} {l : Addr} {ns : List Int} {k : Int} {u : Tok} (x : Is h l (.kI ns)) (h0 : 0 ≤ k) (h1 : k < ns.length) (h2 : k < 2 ^ 62) (q : ∀ u, Q (.int (ns.getD k.toNat 0) u) (St b h t))
    (hs : subscripted slice false (.ref l) (.int k u) = operate [.ref l, .int k u] (getItem (.ref l) (.int k u)) := by with_unfolding_all rfl) (hg : ∀ r, letTemporaryGo value (.ref l) r = pure () := by intro _; with_unfolding_all rfl) :
    wpAny (model prog w) A (subscriptTail value slice (.ref l) (.int k u)) Q E (St b h t) := by
  obtain ⟨vs, hl, hi⟩ := x.list
  exact item_list_ints (s := St b h t) hl hi h0 h1 (by omega) q hs hg
/- an item of a tuple of ints -/
theorem x_itemT {value slice : Expr} {l : Addr} {vs : List Value} {ns : List Int} {k : Int} {u : Tok} (x : Is h l (.kT vs)) (hi : IntsAre vs ns) (h0 : 0 ≤ k) (h1 : k < ns.length) (h2 : k < 2 ^ 62) (q : ∀ u, Q (.int (ns.getD k.toNat 0) u) (St b h t))
    (hs : subscripted slice false (.ref l) (.int k u) = operate [.ref l, .int k u] (getItem (.ref l) (.int k u)) := by with_unfolding_all rfl) :
    wpAny (model prog w) A (subscriptTail value slice (.ref l) (.int k u)) Q E (St b h t) := by
  have hlt : k.toNat < ns.length := by omega
  obtain ⟨v, hv⟩ := hi.get k.toNat (ns.getD k.toNat 0) (by simp [List.getD_eq_getElem?_getD, hlt])
  refine item_tupleT (s := St b h t) (j := k.toNat) x.tuple (by omega) (by omega) ?_ hv (q _) hs
  unfold seqIndex?
  have := hi.length
  simp only []
  split <;> first | omega | (congr 1; done) | skip
  all_goals (first | rfl | omega | (simp; omega))
/- a written item of a tuple -/
theorem x_itemW {value slice : Expr} {l : Addr} {vs : List Value} {k : Int} {u : Tok} {n : Nat} {v : Value} (x : Is h l (.kT vs)) (hk : seqIndex? k vs.length = some n) (hv : vs[n]? = some v) (h1 : -(2 ^ 63) ≤ k) (h2 : k < 2 ^ 63) (q : Q v (St b h t))
    (hs : subscripted slice false (.ref l) (.int k u) = operate [.ref l, .int k u] (getItem (.ref l) (.int k u)) := by with_unfolding_all rfl) :
    wpAny (model prog w) A (subscriptTail value slice (.ref l) (.int k u)) Q E (St b h t) := item_tupleT (s := St b h t) x.tuple h1 h2 hk hv q hs

theorem push_stays (h : Heap) (o : Obj) : Stays h (h.push o) := fun _ _ e => Heap.get?_push_of_some _ e
theorem x_newList {vs : List Value} (F : Fm W h₀ L dl h m led) (hsz : vs.length ≤ 1000) (q : ∀ r h', Fm W h₀ L dl h' m ((r, .kE vs, true) :: led) → Q (.ref r) (St b h' t)) : wpAny M A (newList vs) Q E (St b h t) :=
  wpAny_newObj_type (s := St b h t) (q _ _ (F.add (push_stays h _) (new_none h) ⟨_, Heap.get?_push_size _ rfl, 0, rfl⟩)) (by show vs.toArray.size ≤ sizeLine; rw [List.size_toArray]; unfold sizeLine; omega)
theorem x_newListD {vs : List Value} {ns : List Int} (F : Fm W h₀ L none h m led) (hi : IntsAre vs ns) (hsz : vs.length ≤ 1000) (q : ∀ r h', Fm W h₀ L (some (r, .kP ns)) h' m led → Q (.ref r) (St b h' t)) : wpAny M A (newList vs) Q E (St b h t) :=
  wpAny_newObj_type (s := St b h t) (q _ _ (F.toD (push_stays h _) (new_none h) ⟨_, Heap.get?_push_size _ rfl, vs.toArray, 0, rfl, rfl, rfl, by simpa using hi⟩)) (by show vs.toArray.size ≤ sizeLine; rw [List.size_toArray]; unfold sizeLine; omega)
theorem x_newTuple {vs : List Value} (F : Fm W h₀ L dl h m led) (hsz : vs.length ≤ 1000) (q : ∀ r h', Fm W h₀ L dl h' m ((r, .kT vs, true) :: led) → Q (.ref r) (St b h' t)) : wpAny M A (newTuple vs) Q E (St b h t) :=
  wpAny_newObj_type (s := St b h t) (q _ _ (F.add (push_stays h _) (new_none h) ⟨_, Heap.get?_push_size _ rfl, 0, rfl, rfl⟩)) (by show vs.toArray.size ≤ sizeLine; rw [List.size_toArray]; unfold sizeLine; omega)

theorem ints_replicate (n : Nat) (v : Int) (u : Tok) : IntsAre (List.replicate n (.int v u)) (List.replicate n v) := by
  induction n with
  | zero => exact .nil
  | succ n ih => exact .cons v u ih
theorem fold_replicate (n : Nat) (x : Value) : (List.foldl (fun x1 x2 => x1 ++ x2) #[] (List.replicate n #[x])).toList = List.replicate n x := by
  have gen : ∀ (n : Nat) (acc : Array Value), (List.foldl (fun x1 x2 => x1 ++ x2) acc (List.replicate n #[x])).toList = acc.toList ++ List.replicate n x := by
    intro n
    induction n with
    | zero => intro acc; simp
    | succ n ih => intro acc; rw [List.replicate_succ, List.foldl_cons, ih]; simp [List.replicate_succ]
  simpa using gen n #[]
/- [v] * n -/
theorem x_rep {l : Addr} {v n : Int} {u u' : Tok} (F : Fm W h₀ L dl h m led) (x : Is h l (.kE [.int v u])) (h1 : n < 10000) (hlo : -1000 ≤ n)
    (q : ∀ r h', Fm W h₀ L dl h' m ((r, .kP (List.replicate n.toNat v), true) :: led) → Q (.ref r) (St b h' t)) : wpAny (model prog w) A (binaryOp .Mult (.ref l) (.int n u')) Q E (St b h t) := by
  obtain ⟨mm, news, F', N, tr⟩ := F.rows
  obtain ⟨o, ho, k, rfl⟩ := x
  refine mul_list (s := St b h t) F' N ho (by omega) (by omega) (by simp; omega) fun h' F'' N'' => ?_
  have G := tr h' [_] F'' N''
  have hr := N'' _ (.head _)
  refine q _ _ ⟨G.gl, G.ns, G.keep, G.above, G.own, fun q hq => ?_⟩
  rcases List.mem_cons.mp hq with rfl | hq
  · refine ⟨⟨_, hr.1, _, _, rfl, rfl, rfl, ?_⟩, hr.2.1, fun d e => ?_, hr.2.2⟩
    · rw [show ([Value.int v u].toArray).isEmpty = false from rfl]
      simp only [Bool.false_eq_true, if_false]
      rw [fold_replicate]; exact ints_replicate _ _ _
    · intro z
      obtain ⟨o, ho, _⟩ := (F.own d e).2.2
      have := new_none h
      rw [← z] at ho; simp only at ho
      rw [this] at ho; cases ho
  · exact G.objs q hq
/- the same, as the list that is changed -/
theorem x_repD {l : Addr} {v n : Int} {u u' : Tok} (F : Fm W h₀ L none h m led) (x : Is h l (.kE [.int v u])) (h1 : n < 10000) (hlo : -1000 ≤ n)
    (q : ∀ r h', Fm W h₀ L (some (r, .kP (List.replicate n.toNat v))) h' m led → Q (.ref r) (St b h' t)) : wpAny (model prog w) A (binaryOp .Mult (.ref l) (.int n u')) Q E (St b h t) := by
  obtain ⟨mm, news, F', N, tr⟩ := F.rows
  obtain ⟨o, ho, k, rfl⟩ := x
  refine mul_list (s := St b h t) F' N ho (by omega) (by omega) (by simp; omega) fun h' F'' N'' => ?_
  have G := tr h' [_] F'' N''
  have hr := N'' _ (.head _)
  refine q _ _ ⟨G.gl, G.ns, G.keep, G.above, fun d e => ?_, fun q hq => ⟨(G.objs q hq).1, (G.objs q hq).2.1, fun d e => ?_, (G.objs q hq).2.2.2⟩⟩
  · cases e
    refine ⟨hr.2.2, hr.2.1, ⟨_, hr.1, _, _, rfl, rfl, rfl, ?_⟩⟩
    rw [show ([Value.int v u].toArray).isEmpty = false from rfl]
    simp only [Bool.false_eq_true, if_false]
    rw [fold_replicate]; exact ints_replicate _ _ _
  · cases e
    intro z
    obtain ⟨o, ho, _⟩ := (F.objs q hq).1
    have := new_none h
    rw [z] at ho
    simp only at ho
    rw [this] at ho; cases ho
/- a + b of lists -/
theorem x_cat {l l' : Addr} {ns ms : List Int} (F : Fm W h₀ L dl h m led) (x : Is h l (.kI ns)) (y : Is h l' (.kI ms)) (h1 : ns.length + ms.length ≤ 10000)
    (q : ∀ r h', Fm W h₀ L dl h' m ((r, .kP (ns ++ ms), true) :: led) → Q (.ref r) (St b h' t)) : wpAny (model prog w) A (binaryOp .Add (.ref l) (.ref l')) Q E (St b h t) := by
  obtain ⟨mm, news, F', N, tr⟩ := F.rows
  obtain ⟨vs, hl, hi⟩ := x.list
  obtain ⟨ws, hl', hi'⟩ := y.list
  refine add_lists_ints (s := St b h t) F' N hl hl' hi hi' (fun h' F'' N'' hi'' => ?_) (by unfold sizeLine; omega)
  have G := tr h' [_] F'' N''
  have hr := N'' _ (.head _)
  refine q _ _ ⟨G.gl, G.ns, G.keep, G.above, G.own, fun q hq => ?_⟩
  rcases List.mem_cons.mp hq with rfl | hq
  · refine ⟨⟨_, hr.1, (vs ++ ws).toArray, 0, rfl, rfl, rfl, by simpa using hi''⟩, hr.2.1, fun d e => ?_, hr.2.2⟩
    intro z
    obtain ⟨o, ho, _⟩ := (F.own d e).2.2
    have := new_none h
    rw [← z] at ho; simp only at ho
    rw [this] at ho; cases ho
  · exact G.objs q hq
/- append to the list that is changed -/
theorem x_append {D : Addr} {ns : List Int} {v : Int} {u : Tok} (F : Fm W h₀ L (some (D, .kP ns)) h m led) (h1 : ns.length ≤ 10000)
    (q : ∀ h', Fm W h₀ L (some (D, .kP (ns ++ [v]))) h' m led → Q .none (St b h' t)) : wpAny (model prog w) A (call (.builtin "list.append") [.ref D, .int v u]) Q E (St b h t) := by
  obtain ⟨vs, hl, hi⟩ := F.hasD.plain
  refine list_append_plainL (s := St b h t) hl (fun h' hl' hs => q h' (F.change hs (Is.ofPlain hl' ?_))) (by rw [List.size_toArray, hi.length]; unfold sizeLine; omega)
  simpa using hi.append (.cons v u .nil)
/- the statement x.append(e) -/
theorem x_appendCall {D : Addr} {ns : List Int} {x : Str} {elt : Expr} {p1 apos pos : Pos} (F : Fm W h₀ L (some (D, .kP ns)) h m led) (hx : m.lookup x = some (.ref D))
    (q : wpAny (model prog w) A (eval elt (envOf name scope L a cd)) (fun y s₂ => wpAny (model prog w) A (call (.builtin "list.append") [.ref D, y]) Q E s₂) E (St b h t))
    (hbase : attributeBase (.Name x p1) "append" (envOf name scope L a cd) (eval (.Name x p1) (envOf name scope L a cd)) = eval (.Name x p1) (envOf name scope L a cd) := by rfl)
    (hfew : ((backTo pos (starEach [elt] (envOf name scope L a cd))).all (fun x => !x.1) && (backToKw pos (keywordEach [] (envOf name scope L a cd))).all (fun x => x.1.isSome)
      && decide (([elt] : List Expr).length + ([] : List Keyword).length + (if ([] : List Keyword).isEmpty then 0 else 1) < 30)) = true := by rfl)
    (hline : (apos.endLine == pos.line) = true := by rfl)
    (htrees : backTo pos (starEach [elt] (envOf name scope L a cd)) = [(false, eval elt (envOf name scope L a cd))] := by rfl)
    (hk : scope.kind = .function := by rfl) (hl : (envOf name scope L a cd).kindOf x = some .local := by rfl) (hd : (x == ("__debug__" : Str)) = false := by decide) :
    wpAny (model prog w) A (eval (.Call (.Attribute (.Name x p1) "append" apos) [elt] [] pos) (envOf name scope L a cd)) Q E (St b h t) := by
  obtain ⟨vs, hp, hi⟩ := F.hasD.plain
  exact wpAny_Call_append hbase hfew hline htrees (r_loc F hx ⟨D, vs.toArray, rfl, hp, q⟩ hk hl hd)
/- x[k] = v on the list that is changed -/
theorem x_setItem {D : Addr} {K : Kd} {ns : List Int} {k v : Int} {u u' : Tok} {Q : Unit → Shared → Prop} (F : Fm W h₀ L (some (D, K)) h m led) (x : Is h D (.kI ns)) (h0 : 0 ≤ k) (h1 : k < ns.length) (h2 : k < 2 ^ 62)
    (q : ∀ h', Fm W h₀ L (some (D, .kI (ns.set k.toNat v))) h' m led → Q () (St b h' t)) : wpAny (model prog w) A (setItem (.ref D) (.int k u') (.int v u)) Q E (St b h t) := by
  obtain ⟨vs, hl, hi⟩ := x.list
  refine wpAny_setItem_list (s := St b h t) hl h0 (by omega) (by rw [List.size_toArray, hi.length]; omega) fun h' hl' hs => q h' (F.change hs (Is.ofList hl' ?_))
  have set : ∀ {vs : List Value} {ns : List Int}, IntsAre vs ns → ∀ n : Nat, IntsAre (vs.set n (.int v u)) (ns.set n v) := by
    intro vs ns hh
    induction hh with
    | nil => intro n; exact .nil
    | cons n t _ ih => intro k; cases k with
      | zero => exact .cons _ _ (by assumption)
      | succ k => exact .cons _ _ (ih k)
  simpa using set hi k.toNat

theorem x_slice {value : Expr} {lower upper : Option Expr} {p pos : Pos}
    (q : wpAny (model prog w) A (eval value env) (fun o s₁ => wpAny (model prog w) A (evalPart lower env) (fun vl s₂ => wpAny (model prog w) A (evalPart upper env) (fun vu s₃ =>
      ∃ l ns lo hi h₁ t₁, o = .ref l ∧ s₃ = St b h₁ t₁ ∧ Is h₁ l (.kI ns) ∧ ns.length ≤ 10000 ∧ IsPart vl lo ∧ IsPart vu hi ∧
        ∀ vs : List Value, IntsAre vs ns → ∀ r h', Stays h₁ h' → h₁.get? r = none → (∃ n, h'.get? r = some { cls := .type "list", data := .seq (slicePick vs.toArray lo hi none) n }) → Q (.ref r) (St b h' t₁)) E s₂) E s₁) E (St b h t))
    (ht : ∀ o r, letTemporaryGo value o r = pure () := by intro _ _; rfl) :
    wpAny (model prog w) A (eval (.Subscript value (.Slice lower upper none p) pos) env) Q E (St b h t) := by
  refine wpAny_Subscript_list_slice (wpAny_mono q (fun o s₁ q => wpAny_mono q (fun vl s₂ q => wpAny_mono q (fun vu s₃ q => ?_) fun _ _ e => e) fun _ _ e => e) fun _ _ e => e) ht
  obtain ⟨l, ns, lo, hi, h₁, t₁, rfl, rfl, x, hsz, pl, pu, q⟩ := q
  obtain ⟨vs, hl, hvs⟩ := x.list
  refine ⟨l, vs.toArray, lo, hi, rfl, hl, by rw [List.size_toArray, hvs.length]; unfold sizeLine; omega, pl, pu, q vs hvs _ _ (fun c o e => Heap.get?_push_of_some _ (Heap.get?_push_of_some _ e)) ?_ ⟨0, ?_⟩⟩
  · have := new_none (h₁.push { cls := .type "slice", data := .fields #[vl, vu, .none] })
    rw [Heap.size_push] at this
    exact none_of (push_stays h₁ _) this
  · have := Heap.get?_push_size (h₁.push { cls := .type "slice", data := .fields #[vl, vu, .none] }) (o := { cls := .type "list", data := .seq (slicePick vs.toArray lo hi none) }) rfl
    rwa [Heap.size_push] at this
/- x[:n] -/
theorem x_upto {x : Str} {e : Expr} {p1 p pos : Pos} {l : Addr} {ns : List Int} (F : Fm W h₀ L dl h m led) (hx : m.lookup x = some (.ref l))
    (q : wpAny (model prog w) A (eval e (envOf name scope L a cd)) (fun v s₁ => ∃ n u m' led' h₁ t₁, v = .int n u ∧ s₁ = St b h₁ t₁ ∧ 0 ≤ n ∧ Is h₁ l (.kI ns) ∧ ns.length ≤ 10000 ∧ Fm W h₀ L dl h₁ m' led' ∧
      ∀ r h', Fm W h₀ L dl h' m' ((r, .kP (ns.take n.toNat), true) :: led') → Q (.ref r) (St b h' t₁)) E (St b h t))
    (hk : scope.kind = .function := by rfl) (hl : (envOf name scope L a cd).kindOf x = some .local := by rfl) (hd : (x == ("__debug__" : Str)) = false := by decide) :
    wpAny (model prog w) A (eval (.Subscript (.Name x p1) (.Slice none (some e) none p) pos) (envOf name scope L a cd)) Q E (St b h t) := by
  refine x_slice (r_loc F hx ?_ hk hl hd)
  refine wpAny_evalPart_none (wpAny_evalPart_some (wpAny_mono q (fun v s₁ q => ?_) fun _ _ e => e))
  obtain ⟨n, u, m', led', h₁, t₁, rfl, rfl, h0, y, hsz, F', q⟩ := q
  refine ⟨l, ns, none, some n, h₁, t₁, rfl, rfl, y, hsz, .none, .int _ _, fun vs hvs r h' st nn hr => q r h' (F'.add st nn ?_)⟩
  obtain ⟨k, hr⟩ := hr
  refine ⟨_, hr, _, k, rfl, rfl, rfl, ?_⟩
  obtain ⟨k', rfl⟩ := Int.eq_ofNat_of_zero_le h0
  rw [slicePick_upto']
  simpa using hvs.take k'
theorem x_uptoN {x y : Str} {p1 p2 p pos : Pos} {l : Addr} {ns : List Int} {n : Int} {u : Tok} (F : Fm W h₀ L dl h m led) (hx : m.lookup x = some (.ref l)) (hy : m.lookup y = some (.int n u)) (i : Is h l (.kI ns)) (h0 : 0 ≤ n) (hsz : ns.length ≤ 10000)
    (q : ∀ r h', Fm W h₀ L dl h' m ((r, .kP (ns.take n.toNat), true) :: led) → Q (.ref r) (St b h' t))
    (hk : scope.kind = .function := by rfl) (hl : (envOf name scope L a cd).kindOf x = some .local := by rfl) (hd : (x == ("__debug__" : Str)) = false := by decide) (hly : (envOf name scope L a cd).kindOf y = some .local := by rfl) (hdy : (y == ("__debug__" : Str)) = false := by decide) :
    wpAny (model prog w) A (eval (.Subscript (.Name x p1) (.Slice none (some (.Name y p2)) none p) pos) (envOf name scope L a cd)) Q E (St b h t) :=
  x_upto F hx (r_loc F hy ⟨n, u, m, led, h, t, rfl, rfl, h0, i, hsz, F, q⟩ hk hly hdy) hk hl hd
abbrev rangeObj (x y z : Int) (t u v : Tok) : Obj := { cls := .type "range", dict := none, data := .fields #[.int x t, .int y u, .int z v], slots := #[] }
theorem x_range1 {n : Int} {u : Tok} (F : Fm W h₀ L dl h m led) (q : ∀ r h' t' u₁ u₂ u₃, Fm W h₀ L dl h' m ((r, .kR (rangeObj 0 n 1 u₁ u₂ u₃), true) :: led) → Q (.ref r) (St b h' t')) :
    wpAny (model prog w) A (call (.type "range") [.int n u]) Q E (St b h t) :=
  call_range_1 (s := St b h t) (q _ _ _ _ _ _ (F.add (push_stays h _) (new_none h) ⟨_, Heap.get?_push_size _ rfl, rfl, fun _ _ e => nomatch e⟩))
theorem x_range3 {x y : Int} {u₁ u₂ u₃ : Tok} (F : Fm W h₀ L dl h m led) (q : ∀ r h' t', Fm W h₀ L dl h' m ((r, .kR (rangeObj x y (-1) u₁ u₂ u₃), true) :: led) → Q (.ref r) (St b h' t')) :
    wpAny (model prog w) A (call (.type "range") [.int x u₁, .int y u₂, .int (-1) u₃]) Q E (St b h t) :=
  call_range_3 (s := St b h t) (by decide) (q _ _ _ (F.add (push_stays h _) (new_none h) ⟨_, Heap.get?_push_size _ rfl, rfl, fun _ _ e => nomatch e⟩)) (.inl (PyProof.noPylong_of_log2 (by decide +kernel)))
theorem x_max (F : Fm W h₀ L dl h m led) (hA : A.handled = none) (q : ∀ u h' t', Fm W h₀ L dl h' m led → Q (.int (max i j) u) (St b h' t')) : wpAny (model prog w) A (call (.builtin "max") [.int i u₁, .int j u₂]) Q E (St b h t) := by
  refine max_two_ints (s := St b h t) hA fun h' tk hk => ?_
  by_cases c : j > i
  · rw [if_pos c]; have := q u₂ h' tk (F.after hk); rwa [show max i j = j by omega] at this
  · rw [if_neg c]; have := q u₁ h' tk (F.after hk); rwa [show max i j = i by omega] at this
end
theorem sub_nil {α : Type} {l : List α} : ∀ q ∈ ([] : List α), q ∈ l := fun _ h => nomatch h
theorem sub_cons {α : Type} {a : α} {r l : List α} (h : a ∈ l) (k : ∀ q ∈ r, q ∈ l) : ∀ q ∈ a :: r, q ∈ l := fun q hq => by
  rcases List.mem_cons.mp hq with rfl | hq
  · exact h
  · exact k q hq
theorem turn_next {σ : Type} {W : Wd} {h₀ : Heap} {L : Addr} {b : Shared} {dlO : σ → Option (Addr × Kd)} {mO : σ → List (Str × Value)} {ledO : σ → List Ent} {J : σ → Prop} {Q : Flow → Shared → Prop} {dl : Option (Addr × Kd)} {h : Heap} {m : List (Str × Value)} {led : List Ent} {t : Nat}
    (c : σ) (F : Fm W h₀ L dl h m led) (hd : dl = dlO c) (hm : Sub (mO c) m) (hl : ∀ q ∈ ledO c, q ∈ led) (hJ : J c) : TurnPost W h₀ L b dlO mO ledO J Q .next (St b h t) :=
  ⟨c, h, t, rfl, by subst hd; exact F.wk hm hl, hJ⟩
theorem ite_dec {p : Prop} [Decidable p] {X Y : Prop} (h1 : p → X) (h2 : ¬ p → Y) : if decide p = true then X else Y := by
  by_cases h : p
  · rw [if_pos (by simpa using h)]; exact h1 h
  · rw [if_neg (by simpa using h)]; exact h2 h
theorem ite_beq {a b : Int} {X Y : Prop} (h1 : a = b → X) (h2 : a ≠ b → Y) : if (a == b) = true then X else Y := by
  by_cases h : a = b
  · rw [if_pos (by simpa using h)]; exact h1 h
  · rw [if_neg (by simpa using h)]; exact h2 h
theorem ite_bne {a b : Int} {X Y : Prop} (h1 : a ≠ b → X) (h2 : a = b → Y) : if (a != b) = true then X else Y := by
  by_cases h : a = b
  · rw [if_neg (by simpa using h)]; exact h2 h
  · rw [if_pos (by simpa using h)]; exact h1 h
theorem ite_t {X Y : Prop} (h : X) : if true = true then X else Y := by rw [if_pos rfl]; exact h
theorem ite_f {X Y : Prop} (h : Y) : if false = true then X else Y := by rw [if_neg (by decide)]; exact h
theorem bb_len : bootBuiltins "len" = some (.builtin "len") := by decide +kernel
theorem bb_max : bootBuiltins "max" = some (.builtin "max") := by decide +kernel
theorem bb_range : bootBuiltins "range" = some (.type "range") := by decide +kernel
section
variable {W : Wd} {prog : Program} {w : World} {M : Model} {A : Around} {E : Value → Shared → Prop} {b : Shared} {h₀ h : Heap} {L a : Addr} {dl : Option (Addr × Kd)} {t : Nat}
  {m : List (Str × Value)} {led : List Ent} {name : Str} {scope : Scope} {cd : Value} {Q : Value → Shared → Prop}
/- a call of a built-in function -/
theorem r_bcall {x : Str} {id : String} {e : Expr} {rest : List Expr} {pos pos' : Pos} (hv : bootBuiltins x = some (.builtin id)) (F : Fm W h₀ L dl h m led) (hx : x ∈ W.bn)
    (k : wpAny M A (spliced (backTo pos (starEach (e :: rest) (envOf name scope L a cd)))) (fun vs s₁ => wpAny M A (call (.builtin id) vs) Q E s₁) E (St b h t))
    (he : starEach (e :: rest) (envOf name scope L a cd) = (false, eval e (envOf name scope L a cd)) :: starEach rest (envOf name scope L a cd) := by rfl)
    (he2 : eval (.Call (.Name x pos') (e :: rest) [] pos) (envOf name scope L a cd) = (do callWith pos (← eval (.Name x pos') (envOf name scope L a cd)) [] (backTo pos (starEach (e :: rest) (envOf name scope L a cd))) (backToKw pos (keywordEach [] (envOf name scope L a cd)))) := by rfl)
    (hplain : (backTo pos (starEach rest (envOf name scope L a cd))).any (·.1) = false := by rfl) (hne : x ≠ "__name__" := by decide)
    (hk : scope.kind = .function := by rfl) (hl : (envOf name scope L a cd).kindOf x = some .globalImplicit := by rfl) (hn : (x == ("__debug__" : Str)) = false := by decide) :
    wpAny M A (eval (.Call (.Name x pos') (e :: rest) [] pos) (envOf name scope L a cd)) Q E (St b h t) :=
  Call_ (r_bi F hx hv (PyProof.Rows.callWith_builtin1 k he hplain) hne hk hl hn) he2
/- a call of a built-in type -/
theorem r_tcall {x : Str} {T : String} {e : Expr} {rest : List Expr} {pos pos' : Pos} (hv : bootBuiltins x = some (.type T)) (F : Fm W h₀ L dl h m led) (hx : x ∈ W.bn)
    (k : wpAny M A (spliced (backTo pos (starEach (e :: rest) (envOf name scope L a cd)))) (fun vs s₁ => wpAny M A (call (.type T) vs) Q E s₁) E (St b h t))
    (he : starEach (e :: rest) (envOf name scope L a cd) = (false, eval e (envOf name scope L a cd)) :: starEach rest (envOf name scope L a cd) := by rfl)
    (he2 : eval (.Call (.Name x pos') (e :: rest) [] pos) (envOf name scope L a cd) = (do callWith pos (← eval (.Name x pos') (envOf name scope L a cd)) [] (backTo pos (starEach (e :: rest) (envOf name scope L a cd))) (backToKw pos (keywordEach [] (envOf name scope L a cd)))) := by rfl)
    (hplain : (backTo pos (starEach rest (envOf name scope L a cd))).any (·.1) = false := by rfl) (hne : x ≠ "__name__" := by decide)
    (hk : scope.kind = .function := by rfl) (hl : (envOf name scope L a cd).kindOf x = some .globalImplicit := by rfl) (hn : (x == ("__debug__" : Str)) = false := by decide) :
    wpAny M A (eval (.Call (.Name x pos') (e :: rest) [] pos) (envOf name scope L a cd)) Q E (St b h t) := by
  exact Call_ (r_bi F hx hv (PyProof.Rows.callWith_type1 k he hplain) hne hk hl hn) he2
/- len of a list that a local names -/
theorem r_len {x : Str} {l : Addr} {ns : List Int} {pos p1 p2 : Pos} (F : Fm W h₀ L dl h m led) (hx : m.lookup x = some (.ref l)) (i : Is h l (.kI ns)) (hn : ns.length < 2 ^ 62) (q : ∀ u t', Q (.int (ns.length : Nat) u) (St b h t'))
    (hb : Str.ofString "len" ∈ W.bn) (he2 : eval (.Call (.Name "len" p1) [.Name x p2] [] pos) (envOf name scope L a cd) = (do callWith pos (← eval (.Name "len" p1) (envOf name scope L a cd)) [] (backTo pos (starEach [.Name x p2] (envOf name scope L a cd))) (backToKw pos (keywordEach [] (envOf name scope L a cd)))) := by rfl)
    (hk : scope.kind = .function := by rfl) (hl : (envOf name scope L a cd).kindOf "len" = some .globalImplicit := by rfl) (hlx : (envOf name scope L a cd).kindOf x = some .local := by rfl) (hd : (x == ("__debug__" : Str)) = false := by decide) :
    wpAny (model prog w) A (eval (.Call (.Name "len" p1) [.Name x p2] [] pos) (envOf name scope L a cd)) Q E (St b h t) :=
  r_bcall bb_len F hb (args_cons (r_loc F hx (args_nil (x_len i hn q)) hk hlx hd)) (he2 := he2) (hk := hk) (hl := hl)
end
theorem small_down' {a b : Int} (ha : -(2 ^ 62) ≤ a) (ha' : a < 2 ^ 62) (hb : -(2 ^ 62) ≤ b) (hb' : b < 2 ^ 62) : Builtin.Range.small a b (-1) = true ∧ Builtin.Range.rangeSize a b (-1) = ((a - b).toNat : Int) := by
  have e : Builtin.Range.rangeSize a b (-1) = ((a - b).toNat : Int) := by
    unfold Builtin.Range.rangeSize
    simp only [show ¬ ((-1 : Int) > 0) by decide, if_false, show (-(-1) : Int) = 1 from rfl, Int.ediv_one]
    split <;> omega
  refine ⟨?_, e⟩
  unfold Builtin.Range.small
  rw [e]
  simp only [Builtin.Range.rangeFitsLong, Bool.and_eq_true, Bool.or_eq_true, decide_eq_true_eq, beq_iff_eq, show ¬ ((-1 : Int) > 0) by decide, if_false]
  omega

section
variable {W : Wd} {prog : Program} {w : World} {M : Model} {A : Around} {E : Value → Shared → Prop} {b : Shared} {h₀ h : Heap} {L a : Addr} {dl : Option (Addr × Kd)} {t : Nat}
  {m : List (Str × Value)} {led : List Ent} {name : Str} {scope : Scope} {cd : Value} {R : Result → Shared → Prop} {x : Str} {pv : Pos} {body : List Stmt} {r : Addr}
/- a loop over a range -/
theorem r_range {σ : Type} {x₁ x₂ x₃ : Int} {u₁ u₂ u₃ : Tok} {led₁ : List Ent} {m₁ : List (Str × Value)} (n : Nat) (F : Fm W h₀ L dl h m₁ led₁) (hr : (r, .kR (rangeObj x₁ x₂ x₃ u₁ u₂ u₃), true) ∈ led₁) (hA : A.handled = none)
    (hsm : Builtin.Range.small x₁ x₂ x₃ = true) (hn : Builtin.Range.rangeSize x₁ x₂ x₃ = (n : Int))
    (dlO : σ → Option (Addr × Kd)) (mO : σ → List (Str × Value)) (newO : σ → List Ent) (J : Nat → σ → Prop) (c₀ : σ)
    (hd : dl = dlO c₀) (hm : Sub (mO c₀) m₁) (hl : ∀ q ∈ newO c₀ ++ led, q ∈ led₁) (hnew : ∀ c, ∀ q ∈ newO c, q.2.1.notRaw = true) (hJ : J 0 c₀)
    (turn : ∀ i c u h t o I (E' : Value → Shared → Prop), i < n → J i c → Fm W h₀ L (dlO c) h ((x, .int (x₁ + i * x₃) u) :: mO c) ((I, .kR o, true) :: (r, .kR (rangeObj x₁ x₂ x₃ u₁ u₂ u₃), true) :: (newO c ++ led)) →
      wpAny (model prog w) A (execs body (envOf name scope L a cd)) (TurnPost W h₀ L b dlO mO (fun c' => (I, .kR o, true) :: (r, .kR (rangeObj x₁ x₂ x₃ u₁ u₂ u₃), true) :: (newO c' ++ led)) (J (i + 1)) (fun f s' => R (.ok f) s')) E' (St b h t))
    (done : ∀ c h t, J n c → Fm W h₀ L (dlO c) h (mO c) (newO c ++ led) → R (.ok .next) (St b h t))
    (hk : scope.kind = .function := by rfl) (hx : (envOf name scope L a cd).kindOf x = some .local := by rfl)
    (ht : ∀ I v, letOwnedTupleGo (.Name x pv) (.ref I) v = pure () := by intro _ _; rfl) :
    wpAny (model prog w) A (pyIter (.ref r)) (fun it s₂ => codeAny (model prog w) A (.forLoop (.Name x pv) it body [] (envOf name scope L a cd)) R s₂) E (St b h t) := by
  have O := F.objs _ hr
  obtain ⟨or, hor, hk', hkd⟩ := O.1
  subst hk'
  subst hd
  refine wpAny_pyIter_range (s := St b h t) hor hsm ?_
  have F₁ := (F.wk hm hl).after (push_stays h { cls := .type "range_iterator", data := .fields #[rawInt x₁, rawInt (Builtin.Range.rangeSize x₁ x₂ x₃), rawInt x₃] })
  have F₀ := F
  refine r_walk (h := h.push _) (I := h.objs.size) (ax := r) (oX := rangeObj x₁ x₂ x₃ u₁ u₂ u₃) (nX := true) (oI := { cls := .type "range_iterator", data := .fields #[rawInt x₁, rawInt (Builtin.Range.rangeSize x₁ x₂ x₃), rawInt x₃] }) (Walks.range hA h.objs.size x₁ x₃ n) (fun c hc => .inl (List.mem_singleton.mp hc)) (Nat.ne_of_lt (Heap.lt_size hor)) dlO mO newO J c₀ F₁ ?_ (none_of F.keep (new_none h)) ?_ ?_ (Heap.get?_push_size _ rfl) (Heap.get?_push_of_some _ hor) O.2.1 O.2.2.1 O.2.2.2 ?_ ?_ ?_ hkd ?_ hnew hJ ?_ done (fun _ v _ _ _ _ q => wpAny_of_eq (ht _ v) q)
  · show IsRangeIter _ _ _ _ _
    rw [hn]; simpa using Heap.get?_push_size _ rfl
  · obtain ⟨o, ho⟩ := F.lget; exact Ne.symm (Nat.ne_of_lt (Heap.lt_size ho))
  · intro d e
    obtain ⟨o, ho, _⟩ := (F.own d e).2.2; exact Ne.symm (Nat.ne_of_lt (Heap.lt_size ho))
  · constructor <;> (intro e; simp at e)
  · intro i h o st e
    have st' : h.get? _ = some _ := st
    rw [st'] at e; cases e; rfl
  · intro i h st
    exact ⟨_, st, fun _ _ e => nomatch e⟩
  · intro q hq
    obtain ⟨o, ho, _⟩ := (F.objs q (hl q (List.mem_append_right _ hq))).1
    exact Nat.ne_of_lt (Heap.lt_size ho)
  · rintro i c v h' t' o E' hi ⟨u, rfl⟩ hJ' F'
    exact wpAny_assign_Name (r_store F' (fun h'' t'' F'' => turn i c u h'' t'' o _ E' hi hJ' F'') hk hx)
/- for x in range(n) -/
theorem r_up {σ : Type} {u₁ u₂ u₃ : Tok} {led₁ : List Ent} {m₁ : List (Str × Value)} {N : Int} (n : Nat) (hn : n < 2 ^ 60) (F : Fm W h₀ L dl h m₁ led₁) (hr : (r, .kR (rangeObj 0 N 1 u₁ u₂ u₃), true) ∈ led₁) (hN : N = (n : Int)) (hA : A.handled = none)
    (dlO : σ → Option (Addr × Kd)) (mO : σ → List (Str × Value)) (newO : σ → List Ent) (led : List Ent) (J : Nat → σ → Prop) (c₀ : σ)
    (hd : dl = dlO c₀) (hm : Sub (mO c₀) m₁) (hl : ∀ q ∈ newO c₀ ++ led, q ∈ led₁) (hnew : ∀ c, ∀ q ∈ newO c, q.2.1.notRaw = true) (hJ : J 0 c₀)
    (turn : ∀ j c u h t o I (E' : Value → Shared → Prop), j < n → J j c → Fm W h₀ L (dlO c) h ((x, .int (j : Int) u) :: mO c) ((I, .kR o, true) :: (r, .kR (rangeObj 0 N 1 u₁ u₂ u₃), true) :: (newO c ++ led)) →
      wpAny (model prog w) A (execs body (envOf name scope L a cd)) (TurnPost W h₀ L b dlO mO (fun c' => (I, .kR o, true) :: (r, .kR (rangeObj 0 N 1 u₁ u₂ u₃), true) :: (newO c' ++ led)) (J (j + 1)) (fun f s' => R (.ok f) s')) E' (St b h t))
    (done : ∀ c h t, J n c → Fm W h₀ L (dlO c) h (mO c) (newO c ++ led) → R (.ok .next) (St b h t))
    (hk : scope.kind = .function := by rfl) (hx : (envOf name scope L a cd).kindOf x = some .local := by rfl)
    (ht : ∀ I v, letOwnedTupleGo (.Name x pv) (.ref I) v = pure () := by intro _ _; rfl) :
    wpAny (model prog w) A (pyIter (.ref r)) (fun it s₂ => codeAny (model prog w) A (.forLoop (.Name x pv) it body [] (envOf name scope L a cd)) R s₂) E (St b h t) :=
  r_range n F hr hA (small_one (by omega) (by omega) (by omega) (by omega)) (by rw [rangeSize_nat]; omega) dlO mO newO J c₀ hd hm hl hnew hJ
    (fun i c u h t o I E' hi hJ' F' => turn i c u h t o I E' hi hJ' (by rwa [show (0 : Int) + (i : Int) * 1 = (i : Int) by omega] at F')) done hk hx ht
/- for x in range(n - 1, -1, -1): j + 1 places are left ahead of the turn with x = j -/
theorem r_down {σ : Type} {u₁ u₂ u₃ : Tok} {led₁ : List Ent} {m₁ : List (Str × Value)} {N : Int} (n : Nat) (hn : n < 2 ^ 60) (F : Fm W h₀ L dl h m₁ led₁) (hr : (r, .kR (rangeObj N (-1) (-1) u₁ u₂ u₃), true) ∈ led₁) (hN : N = (n : Int) - 1) (hA : A.handled = none)
    (dlO : σ → Option (Addr × Kd)) (mO : σ → List (Str × Value)) (newO : σ → List Ent) (led : List Ent) (J : Nat → σ → Prop) (c₀ : σ)
    (hd : dl = dlO c₀) (hm : Sub (mO c₀) m₁) (hl : ∀ q ∈ newO c₀ ++ led, q ∈ led₁) (hnew : ∀ c, ∀ q ∈ newO c, q.2.1.notRaw = true) (hJ : J n c₀)
    (turn : ∀ j c u h t o I (E' : Value → Shared → Prop), j < n → J (j + 1) c → Fm W h₀ L (dlO c) h ((x, .int (j : Int) u) :: mO c) ((I, .kR o, true) :: (r, .kR (rangeObj N (-1) (-1) u₁ u₂ u₃), true) :: (newO c ++ led)) →
      wpAny (model prog w) A (execs body (envOf name scope L a cd)) (TurnPost W h₀ L b dlO mO (fun c' => (I, .kR o, true) :: (r, .kR (rangeObj N (-1) (-1) u₁ u₂ u₃), true) :: (newO c' ++ led)) (J j) (fun f s' => R (.ok f) s')) E' (St b h t))
    (done : ∀ c h t, J 0 c → Fm W h₀ L (dlO c) h (mO c) (newO c ++ led) → R (.ok .next) (St b h t))
    (hk : scope.kind = .function := by rfl) (hx : (envOf name scope L a cd).kindOf x = some .local := by rfl)
    (ht : ∀ I v, letOwnedTupleGo (.Name x pv) (.ref I) v = pure () := by intro _ _; rfl) :
    wpAny (model prog w) A (pyIter (.ref r)) (fun it s₂ => codeAny (model prog w) A (.forLoop (.Name x pv) it body [] (envOf name scope L a cd)) R s₂) E (St b h t) := by
  have sd := small_down' (a := N) (b := -1) (by omega) (by omega) (by omega) (by omega)
  refine r_range n F hr hA sd.1 (by rw [sd.2]; omega) dlO mO newO (fun i c => J (n - i) c) c₀ hd hm hl hnew hJ (fun i c u h t o I E' hi hJ' F' => ?_) (fun c h t hJ' F' => done c h t (by rwa [Nat.sub_self] at hJ') F') hk hx ht
  have e : N + (i : Int) * (-1) = ((n - 1 - i : Nat) : Int) := by omega
  rw [e] at F'
  have := turn (n - 1 - i) c u h t o I E' (by omega) (by rwa [show n - 1 - i + 1 = n - i by omega]) F'
  rwa [show n - 1 - i = n - (i + 1) by omega] at this
/- for x in l, l a list of ints -/
theorem r_list {σ : Type} {l : Addr} {ns : List Int} {nl : Bool} {led₁ : List Ent} {m₁ : List (Str × Value)} (F : Fm W h₀ L dl h m₁ led₁) (hr : (l, .kI ns, nl) ∈ led₁) (hA : A.handled = none)
    (dlO : σ → Option (Addr × Kd)) (mO : σ → List (Str × Value)) (newO : σ → List Ent) (led : List Ent) (J : Nat → σ → Prop) (c₀ : σ)
    (hd : dl = dlO c₀) (hm : Sub (mO c₀) m₁) (hl : ∀ q ∈ newO c₀ ++ led, q ∈ led₁) (hnew : ∀ c, ∀ q ∈ newO c, q.2.1.notRaw = true) (hJ : J 0 c₀)
    (turn : ∀ j c u h t o I oX (E' : Value → Shared → Prop), j < ns.length → J j c → Fm W h₀ L (dlO c) h ((x, .int (ns.getD j 0) u) :: mO c) ((I, .kR o, true) :: (l, .kR oX, nl) :: (newO c ++ led)) →
      wpAny (model prog w) A (execs body (envOf name scope L a cd)) (TurnPost W h₀ L b dlO mO (fun c' => (I, .kR o, true) :: (l, .kR oX, nl) :: (newO c' ++ led)) (J (j + 1)) (fun f s' => R (.ok f) s')) E' (St b h t))
    (done : ∀ c h t, J ns.length c → Fm W h₀ L (dlO c) h (mO c) (newO c ++ led) → R (.ok .next) (St b h t))
    (hk : scope.kind = .function := by rfl) (hx : (envOf name scope L a cd).kindOf x = some .local := by rfl)
    (ht : ∀ I v, letOwnedTupleGo (.Name x pv) (.ref I) v = pure () := by intro _ _; rfl) :
    wpAny (model prog w) A (pyIter (.ref l)) (fun it s₂ => codeAny (model prog w) A (.forLoop (.Name x pv) it body [] (envOf name scope L a cd)) R s₂) E (St b h t) := by
  have O := F.objs _ hr
  obtain ⟨ol, hol, vs, nn, hc, hdt, hi⟩ := id O.1
  have hlist : h.IsList l vs := ⟨ol, hol, hc, nn, hdt⟩
  subst hd
  refine wpAny_pyIter_list (s := St b h t) hlist ?_
  have F₁ := (F.wk hm hl).after (push_stays h { cls := .type "list_iterator", data := .fields #[.ref l, .int 0 0] })
  have hsz : vs.size = ns.length := by have := hi.length; rw [← this, Array.length_toList]
  have hne : l ≠ h.objs.size := Nat.ne_of_lt (Heap.lt_size hol)
  have Wk := Walks.list (prog := prog) (w := w) hA h.objs.size l hne vs
  rw [hsz] at Wk
  refine r_walk (h := h.push _) (I := h.objs.size) (ax := l) (oX := ol) (nX := nl) (oI := { cls := .type "list_iterator", data := .fields #[.ref l, .int 0 0] }) Wk (fun c hc => by simpa using hc) hne dlO mO newO J c₀ F₁ ?_ (none_of F.keep (new_none h)) ?_ ?_ (Heap.get?_push_size _ rfl) (Heap.get?_push_of_some _ hol) O.2.1 O.2.2.1 ?_ ?_ ?_ ?_ (by intro es n e; rw [hdt] at e; cases e) ?_ hnew hJ ?_ done (fun _ v _ _ _ _ q => wpAny_of_eq (ht _ v) q)
  · exact ⟨⟨_, Heap.get?_push_size _ rfl, rfl, rfl⟩, hlist.push _⟩
  · obtain ⟨o, ho⟩ := F.lget; exact Ne.symm (Nat.ne_of_lt (Heap.lt_size ho))
  · intro d e
    obtain ⟨o, ho, _⟩ := (F.own d e).2.2; exact Ne.symm (Nat.ne_of_lt (Heap.lt_size ho))
  · have H := O.2.2.2
    cases nl with
    | true => exact H
    | false =>
      obtain ⟨o', ho', _⟩ := H
      have := F.keep _ _ ho'
      simp only at this
      rw [hol] at this; cases this
      exact ⟨_, ho', rfl, by intro es n e; rw [hdt] at e; cases e⟩
  · constructor <;> (intro e; simp at e)
  · intro i h o st e
    obtain ⟨⟨o', ho', hc', _⟩, _⟩ := st
    rw [ho'] at e; cases e; exact hc'
  · intro i h st
    obtain ⟨⟨o', ho', _, hd'⟩, _⟩ := st
    exact ⟨_, ho', by intro es n e; rw [hd'] at e; cases e⟩
  · intro q hq
    obtain ⟨o, ho, _⟩ := (F.objs q (hl q (List.mem_append_right _ hq))).1
    exact Nat.ne_of_lt (Heap.lt_size ho)
  · rintro i c v h' t' o E' hi' hP hJ' F'
    obtain ⟨u, hu⟩ := hi.get i (ns.getD i 0) (by simp [List.getD_eq_getElem?_getD, hi'])
    have hv : v = .int (ns.getD i 0) u := by
      rw [Array.getElem?_toList] at hu
      have hP' : vs[i]? = some v := hP
      rw [hu] at hP'; exact (Option.some.inj hP').symm
    subst hv
    exact wpAny_assign_Name (r_store F' (fun h'' t'' F'' => turn i c u h'' t'' o _ ol E' hi' hJ' F'') hk hx)
end
end Mine
namespace Mine
open PySem PySem.Calls PyProof.Rows

def Kd.notDat : Kd → Bool
  | .kD _ => false
  | _ => true
theorem notDat_data {o : Obj} {K : Kd} (n : K.notDat = true) (k : KdAt o K) (es : Array DictEntry) (j : Nat) : o.data ≠ .dict es j := by
  cases K with
  | kI ns => obtain ⟨_, _, _, e, _⟩ := k; rw [e]; exact fun q => nomatch q
  | kP ns => obtain ⟨_, _, _, _, e, _⟩ := k; rw [e]; exact fun q => nomatch q
  | kE vs => obtain ⟨_, e⟩ := k; rw [e]; exact fun q => nomatch q
  | kT vs => obtain ⟨_, _, e⟩ := k; rw [e]; exact fun q => nomatch q
  | kS l => obtain ⟨_, _, _, e⟩ := k; rw [e]; exact fun q => nomatch q
  | kR o => exact k.2 es j
  | kD d => cases n
/- the frames outside -/
structure Stk (A : Around) (outer : List Env) (led : List Ent) : Prop where
  fr : A.frames = some outer
  ok : ∀ env ∈ outer, env.scope.kind ≠ .module ∧ ∃ l d, env.frame = some l ∧ (l, .kD d, true) ∈ led
theorem Stk.sub {A : Around} {outer : List Env} {led led' : List Ent} (S : Stk A outer led) (h : ∀ q ∈ led, q ∈ led') : Stk A outer led' :=
  ⟨S.fr, fun env he => let ⟨k, l, d, hf, hm⟩ := S.ok env he; ⟨k, l, d, hf, h _ hm⟩⟩
def frOf (outer : List Env) : List Addr := outer.filterMap (·.frame)
section
variable {W : Wd} {prog : Program} {w : World} {M : Model} {A : Around} {E : Value → Shared → Prop} {b : Shared} {h₀ h h' : Heap} {L a : Addr} {t : Nat} {outer : List Env}
  {m : List (Str × Value)} {led : List Ent} {name : Str} {scope : Scope} {cd : Value}

theorem fr_dict (F : Fm W h₀ L none h m led) (S : Stk A outer led) {l : Addr} (hl : l ∈ L :: frOf outer) : ∃ o es n, h.get? l = some o ∧ o.data = .dict es n ∧ h₀.get? l = none := by
  rcases List.mem_cons.mp hl with rfl | hl
  · obtain ⟨_, ⟨o, es, n, ho, hd, _⟩, _⟩ := F.ns
    exact ⟨o, es, n, ho, hd, F.fresh⟩
  · obtain ⟨env, he, hf⟩ := List.mem_filterMap.mp hl
    obtain ⟨_, l', d, hf', hm⟩ := S.ok env he
    obtain rfl : l' = l := Option.some.inj (hf'.symm.trans hf)
    obtain ⟨o, ho, hd, es, n, e⟩ := (F.objs _ hm).1
    exact ⟨o, es, n, ho, by rw [hd, e], (F.objs _ hm).2.2.2⟩
/- all but the frames -/
abbrev apart (h : Heap) (L : Addr) (outer : List Env) : Heap := PySem.W.hideAll h (L :: frOf outer)
theorem apart_stays (h : Heap) (L : Addr) (outer : List Env) : (apart h L outer).StaysIn h := fun _ _ e => PySem.W.of_hideAll _ e
theorem apart_fun (F : Fm W h₀ L none h m led) (S : Stk A outer led) (hk : scope.kind = .function) : h.FunFrames (apart h L outer) (envOf name scope L a cd :: outer) := by
  have out : ∀ l : List Env, (∀ env ∈ l, env ∈ outer) → h.FunFrames (apart h L outer) l := by
    intro l
    induction l with
    | nil => intro _; trivial
    | cons env r ih =>
      intro hs
      obtain ⟨hm, l, d, hf, _⟩ := S.ok env (hs env (.head _))
      have hin : l ∈ L :: frOf outer := .tail _ (List.mem_filterMap.mpr ⟨env, hs env (.head _), hf⟩)
      obtain ⟨o, es, n, ho, hd, _⟩ := fr_dict F S hin
      exact ⟨hm, ⟨l, o, hf, PySem.W.hideAll_none _ hin, ho, by intro vs e; rw [hd] at e; cases e⟩, ih fun e he => hs e (.tail _ he)⟩
  obtain ⟨o, es, n, ho, hd, _⟩ := fr_dict F S (l := L) (.head _)
  refine ⟨?_, ⟨L, o, rfl, PySem.W.hideAll_none _ (.head _), ho, by intro vs e; rw [hd] at e; cases e⟩, out outer fun _ h => h⟩
  show scope.kind ≠ .module
  rw [hk]; decide
/- behind a raise: the frames keep all but their slots -/
theorem Fm.slots (F : Fm W h₀ L none h m led) (S : Stk A outer led) (st : (apart h L outer).StaysIn h') (us : h.UpToSlots h') : Fm W h₀ L none h' m led := by
  have up : ∀ c o, h.get? c = some o → c ∉ L :: frOf outer → h'.get? c = some o := fun c o e n => st c o (PySem.W.hideAll_get _ e n)
  refine ⟨F.gl, let ⟨mm, n, k⟩ := F.ns; ⟨mm, us.ns n, k⟩, fun c o e => up c o (F.keep c o e) fun q => ?_, F.above, (fun _ e => nomatch e), fun q hq => ⟨?_, (F.objs q hq).2⟩⟩
  · obtain ⟨_, _, _, _, _, e'⟩ := fr_dict F S q
    rw [e'] at e; cases e
  · obtain ⟨o, ho, hk⟩ := (F.objs q hq).1
    cases hd : q.2.1.notDat with
    | true =>
      refine ⟨o, up _ _ ho fun z => ?_, hk⟩
      obtain ⟨o', es, n, ho', hd', _⟩ := fr_dict F S z
      rw [ho] at ho'; cases ho'
      exact notDat_data hd hk _ _ hd'
    | false =>
      cases hK : q.2.1 with
      | kD d =>
        rw [hK] at hk
        obtain ⟨e1, es, n, e2⟩ := hk
        obtain ⟨sl, hs⟩ := us _ _ ho (by intro vs e; rw [e1, e2] at e; cases e)
        exact ⟨_, hs, e1, es, n, e2⟩
      | kI ns => rw [hK] at hd; cases hd
      | kP ns => rw [hK] at hd; cases hd
      | kE ns => rw [hK] at hd; cases hd
      | kT ns => rw [hK] at hd; cases hd
      | kS l => rw [hK] at hd; cases hd
      | kR ns => rw [hK] at hd; cases hd

/- a def is entered whose frame may raise and catch: the same base -/
theorem r_enterH {f : Addr} {nm : Str} {ps : Arguments} {bd : List Stmt} {sc : Scope} {vals : List Value} {Q : Value → Shared → Prop} (F : Fm W h₀ L none h m led) (S : Stk A outer led) (hf : FnRef h₀ f (nm, ps, bd, sc)) (hA : Rm 1 (A.deeper (envOf name scope L a cd)))
    (binds : List (Str × Value))
    (k : ∀ L' h₁ t₁ code d, Fm W h₀ L' none h₁ binds ((L, .kD d, true) :: led) → Stk (A.deeper (envOf name scope L a cd)) (envOf name scope L a cd :: outer) ((L, .kD d, true) :: led) → (∀ g, Is g L (.kD d) → ∃ mm, g.Ns L mm ∧ Knows mm m) →
      wpAny (model prog w) ((A.deeper (envOf name scope L a cd)).deeper (envOf nm sc L' f code)) (execs bd (envOf nm sc L' f code)) (fun fl s' => Q (match fl with | .ret v => v | _ => .none) s') (fun _ _ => False) (St b h₁ t₁))
    (hck : scope.kind = .function := by rfl)
    (hsub : Sub binds binds.reverse := by repeat (first | exact True.intro | refine ⟨rfl, ?_⟩))
    (hbind : ∀ pm code doc, bindArgs (docDef nm ps bd sc pm code doc) ⟨vals, []⟩ = pure binds := by intro _ _ _; rfl)
    (hloc : ∀ x ∈ binds, sc.names.lookup x.1 = some .local := by exact locs rfl)
    (hco : sc.isCoroutine = false := by rfl) (hgen : sc.isGenerator = false := by rfl) (hk : sc.kind = .function := by rfl)
    (hcell : ∀ x ∈ sc.names, x.2 ≠ .cell := by decide) :
    wpAny (model prog w) (A.deeper (envOf name scope L a cd)) (call (.ref f) vals) Q E (St b h t) := by
  obtain ⟨o, pm, code, doc, h2, h3, h4⟩ := hf
  obtain ⟨mm, ⟨oL, es, ep, hL, hLd, hLk, hLf⟩, kn⟩ := F.ns
  refine wpAny_call (call_plain_ret (s := St b h t) (by have := hA.depth; show (A.deeper (envOf name scope L a cd)).depth < 1000; omega) (F.keep _ _ h2) h3 F.glob.nolimit (h4.keeps F.keep) (hbind pm code doc) hloc (fun h₁ F₁ => ?_) hco hgen hk hcell)
  refine wpAny_mono (k h.objs.size h₁ _ code oL.data ⟨F.gl, ⟨_, F₁.ns, fun x v e => hsub.look e⟩, fun c o e => F₁.keep c o (F.keep c o e), Nat.le_trans F.above (Nat.le_of_lt (Heap.lt_size hL)), (fun _ e => nomatch e), fun q hq => ?_⟩ ⟨Around.frames_deeper S.fr, fun env he => ?_⟩ fun g hg => ?_) (fun _ _ q => q) fun _ _ q => q
  · rcases List.mem_cons.mp hq with rfl | hq
    · exact ⟨⟨oL, F₁.keep _ _ hL, rfl, es, ep, hLd⟩, Nat.ne_of_lt (Heap.lt_size hL), (fun _ e => nomatch e), F.fresh⟩
    · have O := F.objs q hq
      obtain ⟨o', ho', hk'⟩ := O.1
      exact ⟨⟨o', F₁.keep _ _ ho', hk'⟩, Nat.ne_of_lt (Heap.lt_size ho'), (fun _ e => nomatch e), O.2.2.2⟩
  · rcases List.mem_cons.mp he with rfl | he
    · exact ⟨by show scope.kind ≠ .module; rw [hck]; decide, L, _, rfl, .head _⟩
    · obtain ⟨k', l, d, hf', hm⟩ := S.ok env he
      exact ⟨k', l, d, hf', .tail _ hm⟩
  · obtain ⟨o', ho', hd', _⟩ := hg
    exact ⟨mm, ⟨o', es, ep, ho', hd'.trans hLd, hLk, hLf⟩, kn⟩
/- back from such a def -/
theorem Fm.backH {L' : Addr} {dl' : Option (Addr × Kd)} {g : Heap} {m' : List (Str × Value)} {led' : List Ent} {d : Data} (F : Fm W h₀ L none h m led) (hm : ∀ g, Is g L (.kD d) → ∃ mm, g.Ns L mm ∧ Knows mm m) (F' : Fm W h₀ L' dl' g m' led')
    (new : List Ent) (hL : (L, .kD d, true) ∈ led') (hs : ∀ q ∈ led, q ∈ led') (hn : ∀ q ∈ new, q ∈ led') (hnd : (new.all fun q => q.2.1.notDat) = true) : Fm W h₀ L none g m (new ++ led) := by
  have HL := (F'.objs _ hL).1
  refine ⟨F.gl, hm g HL, F'.keep, F.above, (fun _ e => nomatch e), fun q hq => ?_⟩
  rcases List.mem_append.mp hq with hq | hq
  · have O := F'.objs q (hn q hq)
    refine ⟨O.1, fun e => ?_, (fun _ e => nomatch e), O.2.2.2⟩
    obtain ⟨o, ho, hk⟩ := O.1
    obtain ⟨o', ho', hd', es, n, e'⟩ := HL
    simp only at ho'
    rw [e, ho'] at ho; cases ho
    exact notDat_data (List.all_eq_true.mp hnd q hq) hk es n (hd'.trans e')
  · have O := F'.objs q (hs q hq)
    exact ⟨O.1, (F.objs q hq).2.1, (fun _ e => nomatch e), O.2.2.2⟩

/- a def is entered that may raise -/
theorem r_enterE {dl : Option (Addr × Kd)} {f : Addr} {nm : Str} {ps : Arguments} {bd : List Stmt} {sc : Scope} {vals : List Value} {Q : Value → Shared → Prop} (F : Fm W h₀ L dl h m led) (hf : FnRef h₀ f (nm, ps, bd, sc)) (hA : Rm 1 A)
    (binds : List (Str × Value)) (led₀ : List Ent) (hled : AllIs h led₀)
    (k : ∀ L' h₁ t₁ code, Fm W h L' none h₁ binds led₀ →
      wpAny (model prog w) (A.deeper (envOf nm sc L' f code)) (execs bd (envOf nm sc L' f code)) (fun fl s' => Q (match fl with | .ret v => v | _ => .none) s')
        (fun e s' => wpAny (model prog w) (A.deeper (envOf nm sc L' f code)) (leaving (envOf nm sc L' f code) e) (fun _ s'' => E e s'') (fun e' s'' => E e' s'') s') (St b h₁ t₁))
    (hsub : Sub binds binds.reverse := by repeat (first | exact True.intro | refine ⟨rfl, ?_⟩))
    (hbind : ∀ pm code doc, bindArgs (docDef nm ps bd sc pm code doc) ⟨vals, []⟩ = pure binds := by intro _ _ _; rfl)
    (hloc : ∀ x ∈ binds, sc.names.lookup x.1 = some .local := by exact locs rfl)
    (hco : sc.isCoroutine = false := by rfl) (hgen : sc.isGenerator = false := by rfl) (hk : sc.kind = .function := by rfl)
    (hcell : ∀ x ∈ sc.names, x.2 ≠ .cell := by decide) :
    wpAny (model prog w) A (call (.ref f) vals) Q E (St b h t) := by
  obtain ⟨o, pm, code, doc, h2, h3, h4⟩ := hf
  have hfr : h.get? h.objs.size = none := new_none h
  refine wpAny_call (call_plain (s := St b h t) (by have := hA.depth; show A.depth < 1000; omega) (F.keep _ _ h2) h3 F.glob.nolimit (h4.keeps F.keep) (hbind pm code doc) hloc (fun h₁ F₁ => ?_) hco hgen hk hcell)
  refine wpAny_mono (k _ h₁ _ code ⟨F.glob, ⟨_, F₁.ns, fun x v e => hsub.look e⟩, F₁.keep, F₁.above, (fun _ e => nomatch e), fun q hq => ?_⟩) (fun _ _ q => q) fun _ _ q => q
  have hi := hled.mem hq
  refine ⟨hi.1.keeps F₁.keep, fun e => ?_, (fun _ e => nomatch e), by unfold Home; rw [hi.2]; exact hi.1⟩
  obtain ⟨o', ho', _⟩ := hi.1
  rw [e] at ho'
  rw [hfr] at ho'; cases ho'
/- raise X('..') out of the frame; hB: the caller's heap -/
theorem x_raise {hB base : Heap} {l : List Env} {dl : Option (Addr × Kd)} {cls newId initId : String} (FC : ExcCallFacts cls newId initId) (FR : ExcRaiseFacts cls) {x : Str} {msg : Str} {np cp cpos pos : Pos} {kk : Nat} {Q : Flow → Shared → Prop} {E : Value → Shared → Prop}
    (hv : bootBuiltins x = some (.type cls)) (F : Fm W hB L dl h m led) (hx : x ∈ W.bn) (hh : A.handled = none) (hA : A.frames = some l) (hb : base.StaysIn hB) (hfun : hB.FunFrames base l)
    (k : ∀ e a0 h₄ t₄, Heap.FlyingW base l e (.type cls) a0 h₄ → hB.UpToSlots h₄ → E (.ref e) (St b h₄ t₄))
    (he : starEach [.Constant (.str msg) kk cp] (envOf name scope L a cd) = (false, eval (.Constant (.str msg) kk cp) (envOf name scope L a cd)) :: starEach [] (envOf name scope L a cd) := by rfl)
    (hne : x ≠ "__name__" := by decide) (hk : scope.kind = .function := by rfl) (hl : (envOf name scope L a cd).kindOf x = some .globalImplicit := by rfl) (hn : (x == ("__debug__" : Str)) = false := by decide) :
    wpAny (model prog w) (A.deeper (envOf name scope L a cd)) (exec (.Raise (some (.Call (.Name x np) [.Constant (.str msg) kk cp] [] cpos)) none pos) (envOf name scope L a cd)) Q
      (fun e s' => wpAny (model prog w) (A.deeper (envOf name scope L a cd)) (leaving (envOf name scope L a cd) e) (fun _ s'' => E e s'') (fun e' s'' => E e' s'') s') (St b h t) := by
  refine Raise_madeB FC FR hh (r_bi F hx hv ⟨rfl, args_cons (x_str fun u t' => args_nil ⟨by show 1 ≤ sizeLine; unfold sizeLine; decide, fun h' e made => ?_⟩) he⟩ hne hk hl hn) he
  have hbh : base.StaysIn h := fun c o q => F.keep c o (hb c o q)
  have hfr : h.FunFrames base (envOf name scope L a cd :: l) := by
    obtain ⟨mm, ns, _⟩ := F.ns
    refine .cons (by show scope.kind ≠ .module; rw [hk]; decide) rfl ns ?_ (hfun.of_keeps fun c o q _ => ⟨o, F.keep c o q, rfl⟩)
    cases q : base.get? L with
    | none => rfl
    | some o => have := hb L o q; rw [F.fresh] at this; cases this
  exact wpAny_leaves_madeW (Around.frames_deeper hA) rfl hbh hfr made.of fun h₄ tt x1 x2 x3 x4 =>
    k e (.ref tt) h₄ _ x1 (((Heap.UpToSlots.of_keeps F.keep).trans (Heap.UpToSlots.of_keeps made.keeps)).trans x4)

/- the frame's own except takes it -/
theorem r_caught {h₁ : Heap} {e : Addr} {a0 : Value} {X T : String} {x : Str} {np pos : Pos} {b₀ : Stmt} {suite : List Stmt} {rest : List ExceptHandler} {Q : Flow → Shared → Prop}
    (hexc : isSubtype (.type T) (.type "BaseException") = pure true) (hnt : isSubtype (.type ((Manifest.find? T).elim "type" fun y => y.metatype)) (.type "tuple") = pure false) (hsubT : isSubtype (.type X) (.type T) = pure true)
    (hv : bootBuiltins x = some (.type T))
    (F : Fm W h₀ L none h m led) (S : Stk A outer led) (hfl : Heap.FlyingW (apart h L outer) (envOf name scope L a cd :: outer) e (.type X) a0 h₁) (us : h.UpToSlots h₁) (hx : x ∈ W.bn)
    (k : ∀ h', Fm W h₀ L none h' m led → wpAny (model prog w) ((A.deeper (envOf name scope L a cd)).mark (some (.ref e))) (execs (b₀ :: suite) (envOf name scope L a cd)) Q (fun _ _ => False) (St b h' t))
    (hne : x ≠ "__name__" := by decide) (hk : scope.kind = .function := by rfl) (hl : (envOf name scope L a cd).kindOf x = some .globalImplicit := by rfl) (hn : (x == ("__debug__" : Str)) = false := by decide) :
    wpAny (model prog w) (A.deeper (envOf name scope L a cd)) (noteFrame (.ref e) (envOf name scope L a cd))
      (fun _ s₂ => wpAny (model prog w) (A.deeper (envOf name scope L a cd)) (setFlight (.ref e) none) (fun _ s₃ =>
        wpAny (model prog w) (A.deeper (envOf name scope L a cd)) (handleBy (.ref e) (envOf name scope L a cd) (.ExceptHandler (some (.Name x np)) none (b₀ :: suite) pos :: rest)) Q E s₃) E s₂) E (St b h₁ t) := by
  refine wpAny_looks_onW (s := St b h₁ t) (Around.frames_deeper S.fr) rfl hfl fun h₂ hheld us₂ => ?_
  refine wpAny_landsW hheld fun h₃ hfl₃ us₃ => ?_
  have us03 := (us.trans us₂).trans us₃
  have F₃ := F.slots S hfl₃.1 us03
  obtain ⟨ob, hob, hobc⟩ := hfl₃.there
  refine wpAny_handleBy_builtin (X := X) (T := T) (b := true) hexc hnt hsubT (r_bi (b := b) (h := h₃) (t := t) F₃ hx hv ⟨rfl, ⟨ob, hob, hobc⟩, ?_⟩ hne hk hl hn)
  refine lands_againW (s := St b h₃ t) hfl₃ fun h₄ hfl₄ us₄ => ?_
  exact wpAny_mono (k h₄ (F.slots S hfl₄.1 (us03.trans us₄))) (fun _ _ q => q) fun _ _ q => q.elim
end
end Mine
namespace Mine
open PySem PySem.Calls PyProof.Rows

theorem Rm.u {n : Nat} {A : Around} (r : Rm n A) : A.units + 64 < cLine := by have := r.units; show A.units + 64 < 9900; omega
abbrev lint (ns : List Int) : PyData := .list (ns.map .int)
def Rd (h : Heap) (v : Value) (d : PyData) : Prop := ∃ as, Reads h v d as
def RdAll (h : Heap) (vs : List Value) (ds : List PyData) : Prop := ∃ as, ReadsAll h vs ds as
theorem RdAll.nil {h : Heap} : RdAll h [] [] := ⟨_, .nil⟩
theorem RdAll.cons {h : Heap} {v : Value} {vs : List Value} {d : PyData} {ds : List PyData} (x : Rd h v d) (y : RdAll h vs ds) : RdAll h (v :: vs) (d :: ds) := let ⟨_, a⟩ := x; let ⟨_, b⟩ := y; ⟨_, .cons a b⟩
theorem Rd.int {h : Heap} (i : Int) (u : Tok) : Rd h (.int i u) (.int i) := ⟨_, .int i u⟩
theorem Rd.str {h : Heap} (x : Str) (u : Tok) : Rd h (.str x u) (.str x) := ⟨_, .str x u⟩
theorem Rd.il {h : Heap} {a : Addr} {ns : List Int} (x : Is h a (.kI ns)) : Rd h (.ref a) (lint ns) := by
  obtain ⟨vs, hl, hi⟩ := x.list
  exact ⟨_, PySem.W.reads_of_ints hl hi⟩
theorem Rd.tup {h : Heap} {a : Addr} {vs : List Value} {ds : List PyData} (x : Is h a (.kT vs)) (y : RdAll h vs ds) : Rd h (.ref a) (.tuple ds) := by
  obtain ⟨o, ho, n, c, d⟩ := x
  obtain ⟨as, r⟩ := y
  exact ⟨as, .tuple ho c d (by simpa using r)⟩
/- the data that the laws compare -/
inductive Plain : PyData → Prop
  | int (i : Int) : Plain (.int i)
  | str (x : Str) (hx : (PyData.str x).canLay0 = true) : Plain (.str x)
  | lst (ns : List Int) : Plain (lint ns)
section
variable {W : Wd} {prog : Program} {w : World} {M : Model} {A : Around} {E : Value → Shared → Prop} {b : Shared} {h₀ h : Heap} {L a : Addr} {dl : Option (Addr × Kd)} {t : Nat}
  {m : List (Str × Value)} {led : List Ent} {name : Str} {scope : Scope} {cd : Value} {Q : Value → Shared → Prop} {v v' : Value} {d d' : PyData}
/- two lists of ints -/
theorem x_neI {l l' : Addr} {ns ms : List Int} (x : Is h l (.kI ns)) (y : Is h l' (.kI ms)) (hu : A.units + 64 < cLine) (q : Q (.bool (!decide (ns = ms))) (St b h t)) : wpAny (model prog w) A (compareOp .NotEq (.ref l) (.ref l')) Q E (St b h t) := by
  obtain ⟨vs, hl, hi⟩ := x.list
  obtain ⟨vs', hl', hi'⟩ := y.list
  exact PySem.W.ne_intsK (s := St b h t) hl hi hl' hi' hu q
theorem x_type {T : String} (hT : (St b h t).TypeIs v T) (hn : (Value.type T == Value.type "builtin_function_or_method") = false) (q : Q (.type T) (St b h t)) : wpAny (model prog w) A (call (.type "type") [v]) Q E (St b h t) := call_type_of hT hn q
theorem x_typeI {i : Int} {u : Tok} (q : Q (.type "int") (St b h t)) : wpAny (model prog w) A (call (.type "type") [.int i u]) Q E (St b h t) := x_type rfl (by decide) q
theorem x_typeS {x : Str} {u : Tok} (q : Q (.type "str") (St b h t)) : wpAny (model prog w) A (call (.type "type") [.str x u]) Q E (St b h t) := x_type rfl (by decide) q
theorem x_typeL {l : Addr} {ns : List Int} (x : Is h l (.kI ns)) (q : Q (.type "list") (St b h t)) : wpAny (model prog w) A (call (.type "type") [.ref l]) Q E (St b h t) := by
  obtain ⟨o, ho, _, _, hc, _⟩ := x
  exact x_type (T := "list") ⟨o, ho, hc⟩ (by decide) q
theorem x_typeT {l : Addr} {vs : List Value} (x : Is h l (.kT vs)) (q : Q (.type "tuple") (St b h t)) : wpAny (model prog w) A (call (.type "type") [.ref l]) Q E (St b h t) := by
  obtain ⟨o, ho, _, hc, _⟩ := x
  exact x_type (T := "tuple") ⟨o, ho, hc⟩ (by decide) q
theorem x_isT {T U : String} {c : Bool} (hc : (Value.type T == Value.type U) = c) (q : Q (.bool c) (St b h t)) : wpAny M A (compareOp .Is (.type T) (.type U)) Q E (St b h t) := wpAny_is_plain rfl (by rw [hc]; exact q)
theorem bb_type : bootBuiltins "type" = some (.type "type") := by decide +kernel
theorem bb_list : bootBuiltins "list" = some (.type "list") := by decide +kernel
theorem bb_int : bootBuiltins "int" = some (.type "int") := by decide +kernel
theorem bb_str : bootBuiltins "str" = some (.type "str") := by decide +kernel
theorem bb_tuple : bootBuiltins "tuple" = some (.type "tuple") := by decide +kernel
theorem pow_fits {i j : Int} (h0 : 0 ≤ i) (h1 : i < 18446744073709551616) (h2 : 0 ≤ j) (h3 : j ≤ 1000) : (Builtin.Int.intBits i : Int) * j ≤ 2 ^ 27 := by
  have hb : Builtin.Int.intBits i ≤ 64 := intBits_le_64 (by omega) (by omega)
  have h4 : (Builtin.Int.intBits i : Int) * j ≤ 64 * 1000 := Int.le_trans (Int.mul_le_mul_of_nonneg_right (by omega) h2) (Int.mul_le_mul_of_nonneg_left h3 (by decide))
  omega
end
section
variable {W : Wd} {prog : Program} {w : World} {M : Model} {A : Around} {E : Value → Shared → Prop} {b : Shared} {h₀ h : Heap} {L a : Addr} {dl : Option (Addr × Kd)} {t : Nat}
  {m : List (Str × Value)} {led : List Ent} {name : Str} {scope : Scope} {cd : Value} {R : Result → Shared → Prop} {body : List Stmt} {target : Expr}
end
end Mine
namespace Mine
open PySem PySem.Calls PyProof.Rows

section
variable {W : Wd} {prog : Program} {w : World} {M : Model} {A : Around} {E : Value → Shared → Prop} {b : Shared} {h₀ h : Heap} {L a : Addr} {dl : Option (Addr × Kd)} {t : Nat}
  {m : List (Str × Value)} {led : List Ent} {name : Str} {scope : Scope} {cd : Value} {R : Result → Shared → Prop} {body : List Stmt} {target : Expr}
/- for TARGET in a str -/
theorem r_str {σ : Type} {x : Str} {tk : Tok} {led₁ : List Ent} {m₁ : List (Str × Value)} (F : Fm W h₀ L dl h m₁ led₁) (ha : x.cps.all (· < 128) = true) (htab : ∃ q, q ∈ W.tabs) (hA : A.handled = none)
    (dlO : σ → Option (Addr × Kd)) (mO : σ → List (Str × Value)) (newO : σ → List Ent) (led : List Ent) (J : Nat → σ → Prop) (c₀ : σ)
    (hd : dl = dlO c₀) (hm : Sub (mO c₀) m₁) (hl : ∀ q ∈ newO c₀ ++ led, q ∈ led₁) (hnew : ∀ c, ∀ q ∈ newO c, q.2.1.notRaw = true) (hJ : J 0 c₀)
    (turn : ∀ j c cp u h t o I ax oX (E' : Value → Shared → Prop), x.cps[j]? = some cp → J j c → Fm W h₀ L (dlO c) h (mO c) ((I, .kR o, true) :: (ax, .kR oX, false) :: (newO c ++ led)) →
      wpAny (model prog w) A (assign target (envOf name scope L a cd) (.str ⟨#[cp]⟩ u)) (fun _ s₂ => wpAny (model prog w) A (execs body (envOf name scope L a cd)) (TurnPost W h₀ L b dlO mO (fun c' => (I, .kR o, true) :: (ax, .kR oX, false) :: (newO c' ++ led)) (J (j + 1)) (fun f s' => R (.ok f) s')) E' s₂) E' (St b h t))
    (done : ∀ c h t, J x.cps.size c → Fm W h₀ L (dlO c) h (mO c) (newO c ++ led) → R (.ok .next) (St b h t))
    (ht : ∀ I v, letOwnedTupleGo target (.ref I) v = pure () := by intro _ _; rfl) :
    wpAny (model prog w) A (pyIter (.str x tk)) (fun it s₂ => codeAny (model prog w) A (.forLoop target it body [] (envOf name scope L a cd)) R s₂) E (St b h t) := by
  obtain ⟨q, hq⟩ := htab
  obtain ⟨ax, vs, _, ⟨ol, hol₀, nn, hc, hdt⟩, _⟩ := F.gl.tab q hq
  have hol := F.keep _ _ hol₀
  subst hd
  refine wpAny_pyIter_ascii (s := St b h t) ha ?_
  have F₁ := (F.wk hm hl).after (push_stays h { cls := .type "str_ascii_iterator", data := .fields #[.str x tk, .int 0 0] })
  have hne : ax ≠ h.objs.size := Nat.ne_of_lt (Heap.lt_size hol)
  have Wk := Walks.strAscii (prog := prog) (w := w) hA h.objs.size x tk
  refine r_walk (h := h.push _) (I := h.objs.size) (ax := ax) (oX := ol) (nX := false) (oI := { cls := .type "str_ascii_iterator", data := .fields #[.str x tk, .int 0 0] }) Wk (fun c hc => .inl (by simpa using hc)) hne dlO mO newO J c₀ F₁ ?_ (none_of F.keep (new_none h)) ?_ ?_ (Heap.get?_push_size _ rfl) (Heap.get?_push_of_some _ hol) ?_ ?_ ?_ ?_ ?_ ?_ (by intro es n e; rw [hdt] at e; cases e) ?_ hnew hJ ?_ done (fun _ v _ _ _ _ q => wpAny_of_eq (ht _ v) q)
  · exact ⟨_, Heap.get?_push_size _ rfl, rfl, rfl⟩
  · obtain ⟨o, ho⟩ := F.lget; exact Ne.symm (Nat.ne_of_lt (Heap.lt_size ho))
  · intro d e
    obtain ⟨o, ho, _⟩ := (F.own d e).2.2; exact Ne.symm (Nat.ne_of_lt (Heap.lt_size ho))
  · intro e; rw [e, F.fresh] at hol₀; cases hol₀
  · intro d e z
    have := (F.own d e).1
    rw [← z, hol₀] at this; cases this
  · exact ⟨_, hol₀, rfl, by intro es n e; rw [hdt] at e; cases e⟩
  · constructor <;> (intro e; simp at e)
  · intro i h o st e
    obtain ⟨o', ho', hc', _⟩ := st
    have e' := ho'.symm.trans e
    cases e'; exact hc'
  · intro i h st
    obtain ⟨o', ho', _, hd'⟩ := st
    exact ⟨_, ho', by intro es n e; rw [hd'] at e; cases e⟩
  · intro q hq
    obtain ⟨o, ho, _⟩ := (F.objs q (hl q (List.mem_append_right _ hq))).1
    exact Nat.ne_of_lt (Heap.lt_size ho)
  · rintro i c v h' t' o E' hi' ⟨cp, u, hP, rfl⟩ hJ' F'
    exact turn i c cp u h' t' o _ ax ol E' hP hJ' F'
/- the same, where a turn may raise out of the frame -/
theorem r_strE {σ : Type} {Q : Flow → Shared → Prop} {x : Str} {tk : Tok} {led₁ : List Ent} {m₁ : List (Str × Value)} (F : Fm W h₀ L dl h m₁ led₁) (ha : x.cps.all (· < 128) = true) (htab : ∃ q, q ∈ W.tabs) (hA : A.handled = none)
    (dlO : σ → Option (Addr × Kd)) (mO : σ → List (Str × Value)) (newO : σ → List Ent) (led : List Ent) (J : Nat → σ → Prop) (c₀ : σ)
    (hd : dl = dlO c₀) (hm : Sub (mO c₀) m₁) (hl : ∀ q ∈ newO c₀ ++ led, q ∈ led₁) (hnew : ∀ c, ∀ q ∈ newO c, q.2.1.notRaw = true) (hJ : J 0 c₀)
    (hE : PassesOwn (model prog w) A (envOf name scope L a cd) E)
    (turn : ∀ j c cp u h t o I ax oX, x.cps[j]? = some cp → J j c → Fm W h₀ L (dlO c) h (mO c) ((I, .kR o, true) :: (ax, .kR oX, false) :: (newO c ++ led)) →
      wpAny (model prog w) A (assign target (envOf name scope L a cd) (.str ⟨#[cp]⟩ u)) (fun _ s₂ => wpAny (model prog w) A (execs body (envOf name scope L a cd)) (TurnPost W h₀ L b dlO mO (fun c' => (I, .kR o, true) :: (ax, .kR oX, false) :: (newO c' ++ led)) (J (j + 1)) Q) E s₂) E (St b h t))
    (done : ∀ c h t, J x.cps.size c → Fm W h₀ L (dlO c) h (mO c) (newO c ++ led) → Q .next (St b h t))
    (ht : ∀ I v, letOwnedTupleGo target (.ref I) v = pure () := by intro _ _; rfl) :
    wpAny (model prog w) A (pyIter (.str x tk)) (fun it s₂ => codeAny (model prog w) A (.forLoop target it body [] (envOf name scope L a cd)) (fun r s' => match r with | .ok f => Q f s' | .error e => cameBackBy (model prog w) A (envOf name scope L a cd) E e s') s₂) E (St b h t) := by
  obtain ⟨q, hq⟩ := htab
  obtain ⟨ax, vs, _, ⟨ol, hol₀, nn, hc, hdt⟩, _⟩ := F.gl.tab q hq
  have hol := F.keep _ _ hol₀
  subst hd
  refine wpAny_pyIter_ascii (s := St b h t) ha ?_
  have F₁ := (F.wk hm hl).after (push_stays h { cls := .type "str_ascii_iterator", data := .fields #[.str x tk, .int 0 0] })
  have hne : ax ≠ h.objs.size := Nat.ne_of_lt (Heap.lt_size hol)
  have Wk := Walks.strAscii (prog := prog) (w := w) hA h.objs.size x tk
  refine r_walkE (R := fun r s' => match r with | .ok f => Q f s' | .error e => cameBackBy (model prog w) A (envOf name scope L a cd) E e s') (h := h.push _) (I := h.objs.size) (ax := ax) (oX := ol) (nX := false) (oI := { cls := .type "str_ascii_iterator", data := .fields #[.str x tk, .int 0 0] }) Wk (fun c hc => .inl (by simpa using hc)) hne dlO mO newO J c₀ F₁ ?_ (none_of F.keep (new_none h)) ?_ ?_ (Heap.get?_push_size _ rfl) (Heap.get?_push_of_some _ hol) ?_ ?_ ?_ ?_ ?_ ?_ (by intro es n e; rw [hdt] at e; cases e) ?_ hnew hJ E hE ?_ done (fun _ v _ _ _ _ q => wpAny_of_eq (ht _ v) q)
  · exact ⟨_, Heap.get?_push_size _ rfl, rfl, rfl⟩
  · obtain ⟨o, ho⟩ := F.lget; exact Ne.symm (Nat.ne_of_lt (Heap.lt_size ho))
  · intro d e
    obtain ⟨o, ho, _⟩ := (F.own d e).2.2; exact Ne.symm (Nat.ne_of_lt (Heap.lt_size ho))
  · intro e; rw [e, F.fresh] at hol₀; cases hol₀
  · intro d e z
    have := (F.own d e).1
    rw [← z, hol₀] at this; cases this
  · exact ⟨_, hol₀, rfl, by intro es n e; rw [hdt] at e; cases e⟩
  · constructor <;> (intro e; simp at e)
  · intro i h o st e
    obtain ⟨o', ho', hc', _⟩ := st
    have e' := ho'.symm.trans e
    cases e'; exact hc'
  · intro i h st
    obtain ⟨o', ho', _, hd'⟩ := st
    exact ⟨_, ho', by intro es n e; rw [hd'] at e; cases e⟩
  · intro q hq
    obtain ⟨o, ho, _⟩ := (F.objs q (hl q (List.mem_append_right _ hq))).1
    exact Nat.ne_of_lt (Heap.lt_size ho)
  · rintro i c v h' t' o hi' ⟨cp, u, hP, rfl⟩ hJ' F'
    exact turn i c cp u h' t' o _ ax ol hP hJ' F'
end

theorem up_cons {l l' : List Ent} {x : Ent} (h : ∀ q ∈ l, q ∈ l') : ∀ q ∈ l, q ∈ x :: l' := fun q hq => .tail _ (h q hq)
theorem ite_nt {P Q : Prop} (h : Q) : if (!true) = true then P else Q := h
/- a part of an answer -/
inductive Pt where
  | li (a : Addr) (ns : List Int)
  | nu (n : Int) (u : Tok)
  | tx (x : Str) (u : Tok)
def Pt.val : Pt → Value
  | .li a _ => .ref a
  | .nu n u => .int n u
  | .tx x u => .str x u
def Pt.dat : Pt → PyData
  | .li _ ns => lint ns
  | .nu n _ => .int n
  | .tx x _ => .str x
def Pt.ents (nw : Bool) : Pt → List Ent
  | .li a ns => [(a, .kP ns, nw)]
  | _ => []
theorem Pt.rd {h : Heap} {p : Pt} {nw : Bool} (x : ∀ q ∈ p.ents nw, Is h q.1 q.2.1) : Rd h p.val p.dat := by
  cases p with
  | li a ns => exact Rd.il (x (a, .kP ns, nw) (.head _)).pl_ints
  | nu n u => exact Rd.int n u
  | tx s u => exact Rd.str s u
theorem Pt.rds {h : Heap} {nw : Bool} : ∀ {ps : List Pt}, (∀ p ∈ ps, ∀ q ∈ p.ents nw, Is h q.1 q.2.1) → RdAll h (ps.map Pt.val) (ps.map Pt.dat)
  | [], _ => .nil
  | p :: r, x => .cons (Pt.rd (x p (.head _))) (Pt.rds fun p' hp => x p' (.tail _ hp))
theorem allIs_of {h : Heap} : ∀ {l : List Ent}, (∀ q ∈ l, Is h q.1 q.2.1 ∧ q.2.2 = false) → AllIs h l
  | [], _ => trivial
  | q :: r, x => ⟨x q (.head _), allIs_of fun q' hq => x q' (.tail _ hq)⟩
theorem Pt.base {h : Heap} {ps : List Pt} (x : ∀ p ∈ ps, ∀ q ∈ p.ents true, Is h q.1 q.2.1) : AllIs h (ps.flatMap (Pt.ents false)) := allIs_of fun q hq => by
  obtain ⟨p, hp, hq⟩ := List.mem_flatMap.mp hq
  cases p with
  | li a ns =>
    obtain rfl := List.mem_singleton.mp hq
    exact ⟨x _ hp (a, .kP ns, true) (.head _), rfl⟩
  | nu n u => cases hq
  | tx s u => cases hq
/- an answer: a tuple of parts, or a refusal -/
inductive Rs where
  | tup (r : Addr) (ps : List Pt)
  | no (x : Str) (u : Tok)
def Rs.val : Rs → Value
  | .tup r _ => .ref r
  | .no x u => .str x u
def Rs.dat : Rs → PyData
  | .tup _ ps => .tuple (ps.map Pt.dat)
  | .no x _ => .str x
def Rs.ents : Rs → List Ent
  | .tup r ps => (r, .kT (ps.map Pt.val), true) :: ps.flatMap (Pt.ents true)
  | .no _ _ => []
theorem Rs.rd {h : Heap} {R : Rs} (x : ∀ q ∈ R.ents, Is h q.1 q.2.1) : Rd h R.val R.dat := by
  cases R with
  | tup r ps => exact Rd.tup (x _ (.head _)) (Pt.rds (nw := true) fun p hp q hq => x q (.tail _ (List.mem_flatMap.mpr ⟨p, hp, hq⟩)))
  | no s u => exact Rd.str s u
theorem Fm.some {W : Wd} {h₀ h : Heap} {L : Addr} {dl : Option (Addr × Kd)} {m : List (Str × Value)} {led l : List Ent} (F : Fm W h₀ L dl h m led) (s : ∀ q ∈ l, q ∈ led) : ∀ q ∈ l, Is h q.1 q.2.1 := fun q hq => (F.objs q (s q hq)).1
theorem Fm.swap {W : Wd} {h₀ h : Heap} {L : Addr} {dl : Option (Addr × Kd)} {m : List (Str × Value)} {l led : List Ent} (F : Fm W h₀ L dl h m (l ++ led)) : Fm W h₀ L dl h m (led ++ l) :=
  F.wkl fun _ hq => (List.mem_append.mp hq).elim (fun h => List.mem_append_right _ h) fun h => List.mem_append_left _ h
/- two lists of the same ints -/
theorem x_neQ {prog : Program} {w : World} {A : Around} {E : Value → Shared → Prop} {b : Shared} {h : Heap} {t : Nat} {Q : Value → Shared → Prop} {l l' : Addr} {ns : List Int} (x : Is h l (.kI ns)) (y : Is h l' (.kI ns)) (hu : A.units + 64 < cLine) (q : Q (.bool false) (St b h t)) :
    wpAny (model prog w) A (compareOp .NotEq (.ref l) (.ref l')) Q E (St b h t) := x_neI x y hu (by rw [decide_eq_true rfl]; exact q)

/- a def of the text -/
def defOf : Stmt → Option (Str × Arguments × List Stmt × Scope)
  | .FunctionDef name args body _ _ _ scope _ _ _ => some (name, args, body, scope)
  | _ => none
theorem defAt_mem {p : Program} {i : Nat} {d : Str × Arguments × List Stmt × Scope} (h : defAt p i = some d) : d ∈ p.main.body.filterMap defOf := by
  unfold defAt at h
  cases e : p.main.body[i]? with
  | none => rw [e] at h; cases h
  | some st =>
    rw [e] at h
    refine List.mem_filterMap.mpr ⟨st, List.mem_of_getElem? e, ?_⟩
    cases st <;> first | exact h | cases h
/- the globals behind the head -/
theorem gl_of {p V : Program} {bn : List Str} {tabs : List (Str × List Int)} {stabs : List (Str × List Str)} {loose : List Str} {mean : ExcName → Option Value} {mg mb : Str → Option Value} {w : World} {h : Heap} (T : Top V loose mean mg mb h) (B : Tables V w mg h)
    (hrec : (recsOf V).map (fun d => (d.name, d.params, d.body, d.scope)) = p.main.body.filterMap defOf)
    (hbase : valOf V "BASE" = some (.int 10000))
    (hfree : (bn.all fun x => !startupNames.contains x && !loose.contains x && !((recsOf V).map (·.name)).contains x && !((litsOf V).map (·.1)).contains x && !((clssOf V loose).map (·.name)).contains x) = true)
    (htab : tabs.map (fun q => tupIntsOf V q.1) = tabs.map fun q => some q.2) (hstab : stabs.map (fun q => tupStrsOf V q.1) = stabs.map fun q => some q.2) : Gl p bn tabs stabs mg mb h where
  g := T.g
  b := T.b
  bi := T.builtins
  nolimit := T.nolimit
  fn := fun i d e => by
    have := defAt_mem e
    rw [← hrec] at this
    obtain ⟨r, hr, rfl⟩ := List.mem_map.mp this
    exact T.fn r hr
  base := by
    obtain ⟨v, hv, hr⟩ := T.const _ _ hbase
    have := hr h
    cases this
    exact ⟨_, hv⟩
  free := fun x hx => by
    have := List.all_eq_true.mp hfree x hx
    simp only [Bool.and_eq_true, Bool.not_eq_true', List.contains_eq_mem, decide_eq_false_iff_not] at this
    obtain ⟨⟨⟨⟨h1, h2⟩, h3⟩, h4⟩, h5⟩ := this
    exact T.free x h1 h2 h3 h4 h5
  tab := fun q hq => by
    have e : tupIntsOf V q.1 = some q.2 := List.map_inj_left.mp htab q hq
    obtain ⟨a, vs, h1, ⟨o, ho, hc, n, hd⟩, h3⟩ := B.tupI _ _ e
    exact ⟨a, vs, h1, ⟨o, ho, n, hc, hd⟩, h3⟩
  stab := fun q hq => by
    have e : tupStrsOf V q.1 = some q.2 := List.map_inj_left.mp hstab q hq
    obtain ⟨a, vs, h1, ⟨o, ho, hc, n, hd⟩, h3⟩ := B.tupS _ _ e
    exact ⟨a, vs, h1, ⟨o, ho, n, hc, hd⟩, h3⟩
def ixIn (x : Str) : List Stmt → Nat
  | [] => 0
  | st :: r => match defOf st with
    | some d => if d.1 = x then 0 else ixIn x r + 1
    | none => ixIn x r + 1
theorem r_callN {W : Wd} {M : Model} {A : Around} {E : Value → Shared → Prop} {b : Shared} {h₀ h : Heap} {L a : Addr} {dl : Option (Addr × Kd)} {t : Nat} {m : List (Str × Value)} {led : List Ent} {name : Str} {scope : Scope} {cd : Value}
    {x : Str} {e : Expr} {rest : List Expr} {pos pos' : Pos} {Q : Value → Shared → Prop} (F : Fm W h₀ L dl h m led) {d : Str × Arguments × List Stmt × Scope} (hd : defAt W.p (ixIn x W.p.main.body) = some d) (hx : d.1 = x)
    (k : ∀ f, FnRef h₀ f d → wpAny M A (spliced (backTo pos (starEach (e :: rest) (envOf name scope L a cd)))) (fun vs s₁ => Stays h₀ s₁.heap ∧ wpAny M A (call (.ref f) vs) Q E s₁) E (St b h t))
    (he : starEach (e :: rest) (envOf name scope L a cd) = (false, eval e (envOf name scope L a cd)) :: starEach rest (envOf name scope L a cd) := by rfl)
    (he2 : eval (.Call (.Name x pos') (e :: rest) [] pos) (envOf name scope L a cd) = (do callWith pos (← eval (.Name x pos') (envOf name scope L a cd)) [] (backTo pos (starEach (e :: rest) (envOf name scope L a cd))) (backToKw pos (keywordEach [] (envOf name scope L a cd)))) := by rfl)
    (hk : scope.kind = .function := by rfl) (hl : (envOf name scope L a cd).kindOf x = some .globalImplicit := by rfl) (hn : (x == ("__debug__" : Str)) = false := by decide) :
    wpAny M A (eval (.Call (.Name x pos') (e :: rest) [] pos) (envOf name scope L a cd)) Q E (St b h t) := r_call F _ hd hx k he he2 hk hl hn
section
variable {W : Wd} {prog : Program} {w : World} {M : Model} {A : Around} {E : Value → Shared → Prop} {b : Shared} {h₀ h : Heap} {L a : Addr} {dl : Option (Addr × Kd)} {t : Nat}
  {m : List (Str × Value)} {led : List Ent} {name : Str} {scope : Scope} {cd : Value} {env : Env} {s : Shared}
/- several steps at once -/
theorem execs_asg {x : Str} {p pos : Pos} {e : Expr} {rest : List Stmt} {Q : Flow → Shared → Prop} (q : wpAny M A (eval e env) (fun v s' => wpAny M A (storeName env x v) (fun _ s'' => wpAny M A (execs rest env) Q E s'') E s') E s)
    (hs : swapsWith e (some (.Name x p)) pos.line env = pure false := by rfl) :
    wpAny M A (execs (.Assign [.Name x p] e pos :: rest) env) Q E s := wpAny_execs_cons (wpAny_Assign_Name q hs)
theorem execs_ifC {l r : Expr} {op : CmpOp} {p pos : Pos} {body orelse rest : List Stmt} {Q : Flow → Shared → Prop}
    (q : wpAny M A (eval l env) (fun v s₁ => wpAny M A (eval r env) (fun v' s₂ => wpAny M A (compareOp op v v') (fun x s₃ => wpAny M A (truthy x) (fun c s₄ => if c = true then wpAny M A (execs body env) (fun f s' => match f with | .next => wpAny M A (execs rest env) Q E s' | f => Q f s') E s₄ else wpAny M A (execs orelse env) (fun f s' => match f with | .next => wpAny M A (execs rest env) Q E s' | f => Q f s') E s₄) E s₃) E s₂) E s₁) E s)
    (hm : behindInMarks op r = false := by with_unfolding_all rfl) :
    wpAny M A (execs (.If (.Compare l [op] [r] p) body orelse pos :: rest) env) Q E s := wpAny_execs_cons (wpAny_If (wpAny_isTrue_Compare1 q hm))
theorem x_ifNe {x : Str} {p p' p'' pos : Pos} {kk : Nat} {c i : Int} {u : Tok} {body rest : List Stmt} {Q : Flow → Shared → Prop} (F : Fm W h₀ L dl h m led) (hx : m.lookup x = some (.int i u)) (hc : ¬ i = c)
    (q : ∀ t', wpAny (model prog w) A (execs rest (envOf name scope L a cd)) Q E (St b h t'))
    (hk : scope.kind = .function := by rfl) (hl : (envOf name scope L a cd).kindOf x = some .local := by rfl) (hd : (x == ("__debug__" : Str)) = false := by decide) :
    wpAny (model prog w) A (execs (.If (.Compare (.Name x p) [.Eq] [.Constant (.int c) kk p'] p'') body [] pos :: rest) (envOf name scope L a cd)) Q E (St b h t) :=
  wpAny_execs_cons (wpAny_If (wpAny_isTrue_Compare1 (r_loc F hx (x_int fun _ t' => P.eq_int (wpAny_truthy_bool (ite_beq (fun q' => absurd q' hc) (fun _ => wpAny_execs_nil (q t'))))) hk hl hd)))
theorem x_ifEq {x : Str} {p p' p'' pos : Pos} {kk : Nat} {c i : Int} {u : Tok} {body orelse rest : List Stmt} {Q : Flow → Shared → Prop} (F : Fm W h₀ L dl h m led) (hx : m.lookup x = some (.int i u)) (hc : i = c)
    (q : ∀ t', wpAny (model prog w) A (execs body (envOf name scope L a cd)) (fun f s' => match f with | .next => wpAny (model prog w) A (execs rest (envOf name scope L a cd)) Q E s' | f => Q f s') E (St b h t'))
    (hk : scope.kind = .function := by rfl) (hl : (envOf name scope L a cd).kindOf x = some .local := by rfl) (hd : (x == ("__debug__" : Str)) = false := by decide) :
    wpAny (model prog w) A (execs (.If (.Compare (.Name x p) [.Eq] [.Constant (.int c) kk p'] p'') body orelse pos :: rest) (envOf name scope L a cd)) Q E (St b h t) :=
  wpAny_execs_cons (wpAny_If (wpAny_isTrue_Compare1 (r_loc F hx (x_int fun _ t' => P.eq_int (wpAny_truthy_bool (ite_beq (fun _ => q t') (fun q' => absurd hc q')))) hk hl hd)))
theorem args_loc {x : Str} {p pos : Pos} {rest : List Expr} {v : Value} {Q : List Value → Shared → Prop} (F : Fm W h₀ L dl h m led) (hx : m.lookup x = some v)
    (q : wpAny M A (spliced (backTo pos (starEach rest (envOf name scope L a cd)))) (fun vs s' => Q (v :: vs) s') E (St b h t))
    (hk : scope.kind = .function := by rfl) (hl : (envOf name scope L a cd).kindOf x = some .local := by rfl) (hd : (x == ("__debug__" : Str)) = false := by decide)
    (he : starEach (.Name x p :: rest) (envOf name scope L a cd) = (false, eval (.Name x p) (envOf name scope L a cd)) :: starEach rest (envOf name scope L a cd) := by rfl) :
    wpAny M A (spliced (backTo pos (starEach (.Name x p :: rest) (envOf name scope L a cd)))) Q E (St b h t) := args_cons (r_loc F hx q hk hl hd) he
theorem r_callL1 {x y0 : Str} {p0 pos pos' : Pos} {v0 : Value} {Q : Value → Shared → Prop} (F : Fm W h₀ L dl h m led) {d : Str × Arguments × List Stmt × Scope} (hd : defAt W.p (ixIn x W.p.main.body) = some d) (hx : d.1 = x) (hy0 : m.lookup y0 = some v0)
    (q : ∀ f, FnRef h₀ f d → Stays h₀ h ∧ wpAny M A (call (.ref f) [v0]) Q E (St b h t))
    (he : starEach [.Name y0 p0] (envOf name scope L a cd) = (false, eval (.Name y0 p0) (envOf name scope L a cd)) :: starEach [] (envOf name scope L a cd) := by rfl)
    (he2 : eval (.Call (.Name x pos') [.Name y0 p0] [] pos) (envOf name scope L a cd) = (do callWith pos (← eval (.Name x pos') (envOf name scope L a cd)) [] (backTo pos (starEach [.Name y0 p0] (envOf name scope L a cd))) (backToKw pos (keywordEach [] (envOf name scope L a cd)))) := by rfl)
    (hk : scope.kind = .function := by rfl) (hl : (envOf name scope L a cd).kindOf x = some .globalImplicit := by rfl) (hn : (x == ("__debug__" : Str)) = false := by decide)
    (hl0 : (envOf name scope L a cd).kindOf y0 = some .local := by rfl) (hd0 : (y0 == ("__debug__" : Str)) = false := by decide) :
    wpAny M A (eval (.Call (.Name x pos') [.Name y0 p0] [] pos) (envOf name scope L a cd)) Q E (St b h t) :=
  r_callN F hd hx (fun f hf => args_loc F hy0 (args_nil (q f hf)) hk hl0 hd0) he he2 hk hl hn
theorem r_callL2 {x y0 y1 : Str} {p0 p1 pos pos' : Pos} {v0 v1 : Value} {Q : Value → Shared → Prop} (F : Fm W h₀ L dl h m led) {d : Str × Arguments × List Stmt × Scope} (hd : defAt W.p (ixIn x W.p.main.body) = some d) (hx : d.1 = x) (hy0 : m.lookup y0 = some v0) (hy1 : m.lookup y1 = some v1)
    (q : ∀ f, FnRef h₀ f d → Stays h₀ h ∧ wpAny M A (call (.ref f) [v0, v1]) Q E (St b h t))
    (he : starEach [.Name y0 p0, .Name y1 p1] (envOf name scope L a cd) = (false, eval (.Name y0 p0) (envOf name scope L a cd)) :: starEach [.Name y1 p1] (envOf name scope L a cd) := by rfl)
    (he2 : eval (.Call (.Name x pos') [.Name y0 p0, .Name y1 p1] [] pos) (envOf name scope L a cd) = (do callWith pos (← eval (.Name x pos') (envOf name scope L a cd)) [] (backTo pos (starEach [.Name y0 p0, .Name y1 p1] (envOf name scope L a cd))) (backToKw pos (keywordEach [] (envOf name scope L a cd)))) := by rfl)
    (hk : scope.kind = .function := by rfl) (hl : (envOf name scope L a cd).kindOf x = some .globalImplicit := by rfl) (hn : (x == ("__debug__" : Str)) = false := by decide)
    (hl0 : (envOf name scope L a cd).kindOf y0 = some .local := by rfl) (hd0 : (y0 == ("__debug__" : Str)) = false := by decide) (hl1 : (envOf name scope L a cd).kindOf y1 = some .local := by rfl) (hd1 : (y1 == ("__debug__" : Str)) = false := by decide) :
    wpAny M A (eval (.Call (.Name x pos') [.Name y0 p0, .Name y1 p1] [] pos) (envOf name scope L a cd)) Q E (St b h t) :=
  r_callN F hd hx (fun f hf => args_loc F hy0 (args_loc F hy1 (args_nil (q f hf)) hk hl1 hd1) hk hl0 hd0) he he2 hk hl hn
theorem r_callL3 {x y0 y1 y2 : Str} {p0 p1 p2 pos pos' : Pos} {v0 v1 v2 : Value} {Q : Value → Shared → Prop} (F : Fm W h₀ L dl h m led) {d : Str × Arguments × List Stmt × Scope} (hd : defAt W.p (ixIn x W.p.main.body) = some d) (hx : d.1 = x) (hy0 : m.lookup y0 = some v0) (hy1 : m.lookup y1 = some v1) (hy2 : m.lookup y2 = some v2)
    (q : ∀ f, FnRef h₀ f d → Stays h₀ h ∧ wpAny M A (call (.ref f) [v0, v1, v2]) Q E (St b h t))
    (he : starEach [.Name y0 p0, .Name y1 p1, .Name y2 p2] (envOf name scope L a cd) = (false, eval (.Name y0 p0) (envOf name scope L a cd)) :: starEach [.Name y1 p1, .Name y2 p2] (envOf name scope L a cd) := by rfl)
    (he2 : eval (.Call (.Name x pos') [.Name y0 p0, .Name y1 p1, .Name y2 p2] [] pos) (envOf name scope L a cd) = (do callWith pos (← eval (.Name x pos') (envOf name scope L a cd)) [] (backTo pos (starEach [.Name y0 p0, .Name y1 p1, .Name y2 p2] (envOf name scope L a cd))) (backToKw pos (keywordEach [] (envOf name scope L a cd)))) := by rfl)
    (hk : scope.kind = .function := by rfl) (hl : (envOf name scope L a cd).kindOf x = some .globalImplicit := by rfl) (hn : (x == ("__debug__" : Str)) = false := by decide)
    (hl0 : (envOf name scope L a cd).kindOf y0 = some .local := by rfl) (hd0 : (y0 == ("__debug__" : Str)) = false := by decide) (hl1 : (envOf name scope L a cd).kindOf y1 = some .local := by rfl) (hd1 : (y1 == ("__debug__" : Str)) = false := by decide) (hl2 : (envOf name scope L a cd).kindOf y2 = some .local := by rfl) (hd2 : (y2 == ("__debug__" : Str)) = false := by decide) :
    wpAny M A (eval (.Call (.Name x pos') [.Name y0 p0, .Name y1 p1, .Name y2 p2] [] pos) (envOf name scope L a cd)) Q E (St b h t) :=
  r_callN F hd hx (fun f hf => args_loc F hy0 (args_loc F hy1 (args_loc F hy2 (args_nil (q f hf)) hk hl2 hd2) hk hl1 hd1) hk hl0 hd0) he he2 hk hl hn
/- x[k] of a list of ints -/
theorem x_scr {x : Str} {l : Addr} {ns : List Int} {k : Int} {kk : Nat} {p1 p2 pos : Pos} {Q : Value → Shared → Prop} (F : Fm W h₀ L dl h m led) (hx : m.lookup x = some (.ref l)) (i : Is h l (.kI ns)) (h0 : 0 ≤ k) (h1 : k < ns.length) (h2 : k < 2 ^ 62)
    (q : ∀ (_ : Tok) t' u, Q (.int (ns.getD k.toNat 0) u) (St b h t'))
    (hs : ∀ u, subscripted (.Constant (.int k) kk p2) false (.ref l) (.int k u) = operate [.ref l, .int k u] (getItem (.ref l) (.int k u)) := by intro _; with_unfolding_all rfl) (hg : ∀ r, letTemporaryGo (.Name x p1) (.ref l) r = pure () := by intro _; with_unfolding_all rfl)
    (hk : scope.kind = .function := by rfl) (hl : (envOf name scope L a cd).kindOf x = some .local := by rfl) (hd : (x == ("__debug__" : Str)) = false := by decide) :
    wpAny (model prog w) A (eval (.Subscript (.Name x p1) (.Constant (.int k) kk p2) pos) (envOf name scope L a cd)) Q E (St b h t) :=
  Subscript_ (r_loc F hx (x_int fun u' t' => x_item i h0 h1 h2 (q u' t') (hs u') hg) hk hl hd)
theorem execs_ifN {e : Expr} {es : List Expr} {kw : List Keyword} {p pn pos : Pos} {body orelse rest : List Stmt} {Q : Flow → Shared → Prop}
    (q : wpAny M A (eval (.Call e es kw p) env) (fun v s₁ => wpAny M A (truthy v) (fun c s₂ => if (!c) = true then wpAny M A (execs body env) (fun f s' => match f with | .next => wpAny M A (execs rest env) Q E s' | f => Q f s') E s₂ else wpAny M A (execs orelse env) (fun f s' => match f with | .next => wpAny M A (execs rest env) Q E s' | f => Q f s') E s₂) E s₁) E s) :
    wpAny M A (execs (.If (.UnaryOp .Not (.Call e es kw p) pn) body orelse pos :: rest) env) Q E s := wpAny_execs_cons (wpAny_If (wpAny_isTrue_Not (wpAny_isTrue_value q rfl)))
end
/- the law's frame at its start -/
theorem start_fm {W : Wd} {h₀ h : Heap} {L l : Addr} {x : Str} {vs : List Value} {xs : List Int} (G : W.G h₀) (F : Fr h₀ L h (fun y => List.lookup y [(x, .ref l)])) (hL : h₀.IsList l vs.toArray) (hI : IntsAre vs xs) : Fm W h₀ L none h [(x, .ref l)] [(l, .kI xs, false)] :=
  have i := Is.ofList hL (by simpa using hI)
  ⟨G, ⟨_, F.ns, fun _ _ e => e⟩, F.keep, F.above, (fun _ e => nomatch e), fun q hq => by
    obtain rfl := List.mem_singleton.mp hq
    refine ⟨i.keeps F.keep, fun e => ?_, (fun _ e => nomatch e), i⟩
    obtain ⟨o, ho, _⟩ := hL
    have h1 := Heap.lt_size ho
    have h2 := F.above
    have h3 : l = L := e
    exact absurd h1 (by rw [h3]; exact Nat.not_lt.mpr h2)⟩
/- small bounds, by one rule each -/
theorem n_neg (n : Nat) : (-(2 ^ 64) : Int) < (n : Int) := Int.lt_of_lt_of_le (by decide) (Int.natCast_nonneg n)
theorem n_ltZ {n k : Nat} {c : Int} (h : n < k) (hc : (k : Int) ≤ c) : (n : Int) < c := Int.lt_of_lt_of_le (Int.ofNat_lt.mpr h) hc
theorem n_leZ {n k : Nat} {c : Int} (h : n ≤ k) (hc : (k : Int) < c) : (n : Int) < c := Int.lt_of_le_of_lt (Int.ofNat_le.mpr h) hc
theorem n_leY {n k : Nat} {c : Int} (h : n ≤ k) (hc : (k : Int) ≤ c) : (n : Int) ≤ c := Int.le_trans (Int.ofNat_le.mpr h) hc
theorem n_llZ {j n k : Nat} {c : Int} (h : j < n) (h' : n ≤ k) (hc : (k : Int) ≤ c) : (j : Int) < c := n_ltZ (Nat.lt_of_lt_of_le h h') hc
theorem n_gtZ {n k : Nat} {c : Int} (h : k ≤ n) (hc : c < (k : Int)) : c < (n : Int) := Int.lt_of_lt_of_le hc (Int.ofNat_le.mpr h)
theorem n_add0 (n k : Nat) : (0 : Int) ≤ (n : Int) + (k : Int) := Int.add_nonneg (Int.natCast_nonneg n) (Int.natCast_nonneg k)
theorem n_odd (n : Nat) : (0 : Int) < 2 * (n : Int) + 1 := Int.lt_add_one_of_le (Int.mul_nonneg (by decide) (Int.natCast_nonneg n))
theorem e_lt {i k c : Int} (hk : 0 < k) (hc : k ≤ c) : i % k < c := Int.lt_of_lt_of_le (Int.emod_lt_of_pos i hk) hc
theorem z_neg {i : Int} (h : 0 ≤ i ∧ i < 10000) : (-(2 ^ 64) : Int) < i := Int.lt_of_lt_of_le (by decide) h.1
theorem z_lt {i c : Int} (h : 0 ≤ i ∧ i < 10000) (hc : 10000 ≤ c) : i < c := Int.lt_of_lt_of_le h.2 hc
theorem e_le {i k c : Int} (hk : 0 < k) (hc : k ≤ c + 1) : i % k ≤ c := Int.le_of_lt_add_one (e_lt hk hc)
theorem e_tn {i k : Int} {c : Nat} (hk : 0 < k) (hc : k ≤ (c : Int) + 1) : (i % k).toNat ≤ c := Int.toNat_le.mpr (e_le hk hc)
theorem e1_nn {i k c : Int} (hk : 0 < k) (hc : c ≤ 0) : c ≤ 1 + i % k := Int.le_trans hc (Int.add_nonneg (by decide) (Int.emod_nonneg i (Int.ne_of_gt hk)))
theorem e1_pos {i k : Int} (hk : 0 < k) : 0 < 1 + i % k := Int.add_pos_of_pos_of_nonneg (by decide) (Int.emod_nonneg i (Int.ne_of_gt hk))
theorem e1_lt {i k c : Int} (hk : 0 < k) (hc : 1 + k ≤ c) : 1 + i % k < c := Int.lt_of_lt_of_le (Int.add_lt_add_left (Int.emod_lt_of_pos i hk) 1) hc
theorem le4 {n : Nat} (h : n ≤ 4) : n = 0 ∨ n = 1 ∨ n = 2 ∨ n = 3 ∨ n = 4 := by omega
end Mine
namespace Mine
open PySem PySem.Calls PyProof.Rows

theorem execs_app (l₁ l₂ : List Stmt) (env : Env) : execs (l₁ ++ l₂) env = (execs l₁ env >>= fun f => match f with | .next => execs l₂ env | f => pure f) := by
  induction l₁ with
  | nil => rw [List.nil_append, execs_nil, pure_bind]
  | cons st r ih =>
    rw [List.cons_append, execs_cons, execs_cons, bind_assoc]
    congr 1; funext f
    cases f <;> simp [ih]
/- the rows behind the n-th -/
def restOf (n : Nat) (l : List Stmt) : List Stmt := l.drop n
/- the rows up to the n-th, then the rest -/
theorem execs_split {M : Model} {A : Around} {E : Value → Shared → Prop} {s : Shared} {env : Env} {l : List Stmt} {Q : Flow → Shared → Prop} (n : Nat)
    (h : wpAny M A (execs (l.take n) env) (fun f s' => match f with | .next => wpAny M A (execs (restOf n l) env) Q E s' | f => Q f s') E s) : wpAny M A (execs l env) Q E s := by
  have e := execs_app (l.take n) (l.drop n) env
  rw [List.take_append_drop] at e
  rw [e]
  refine wpAny_bind (wpAny_mono h (fun f s' q => ?_) fun _ _ q => q)
  cases f <;> first | exact q | exact wpAny_pure q

theorem bits_of {i : Int} (h0 : 0 ≤ i) (h1 : i < 1000000000000000000000000000000) : Builtin.Int.intBits i ≤ 128 := intBits_le (by
  have : (2 : Nat) ^ 128 = 340282366920938463463374607431768211456 := by decide
  omega)
theorem mul_fits2 {i j : Int} (h0 : 0 ≤ i) (h1 : i < 1000000000000000000000000000000) (h2 : 0 ≤ j) (h3 : j < 1000000000000000000000000000000) : IntMulOk i j :=
  IntMulOk.of_bits (Nat.le_trans (bits_of h0 h1) (by decide)) (Nat.le_trans (bits_of h2 h3) (by decide))
/- a text by its signs -/
abbrev Sx (cs : List Nat) : Str := ⟨cs.toArray⟩
theorem sx_of {x : Str} {cs : List Nat} (h : x.cps.toList = cs) : x = Sx cs := by
  cases x with | mk a => subst h; simp
theorem sx_list (cs : List Nat) : (Sx cs).cps.toList = cs := by simp
theorem sx_len (cs : List Nat) : (Sx cs).length = cs.length := by show cs.toArray.size = _; simp
theorem sx_app (a c : List Nat) : Sx a ++ Sx c = Sx (a ++ c) := sx_of (by rw [PySem.W.KT.app_list])
theorem sx_num (n : Nat) : Str.ofString (toString ((n : Nat) : Int)) = Sx (ts n) := sx_of (PySem.W.KIN.signs_num n)
theorem log2_of {n : Nat} (h : n < 1000000000000000000000000000000000000000000000000000000000000) : ((n : Nat) : Int).natAbs.log2 < 1920 := by
  rw [Int.natAbs_natCast]
  by_cases z : n = 0
  · subst z; decide
  · refine (Nat.log2_lt z).mpr (Nat.lt_trans h (by decide +kernel))
section
variable {W : Wd} {prog : Program} {w : World} {M : Model} {A : Around} {E : Value → Shared → Prop} {b : Shared} {h₀ h : Heap} {L a : Addr} {dl : Option (Addr × Kd)} {t : Nat}
  {m : List (Str × Value)} {led : List Ent} {name : Str} {scope : Scope} {cd : Value} {Q : Value → Shared → Prop} {cs ds : List Nat} {u u' : Tok} {x y : Str}
/- str(n) -/
theorem x_strI {n : Nat} {i : Int} (hi : i = (n : Int)) (hn : n < 1000000000000000000000000000000000000000000000000000000000000) (q : ∀ u t', Q (.str (Sx (ts n)) u) (St b h t')) : wpAny (model prog w) A (call (.type "str") [.int i u]) Q E (St b h t) := by
  subst hi
  refine P.str_of_int (s := St b h t) (log2_of hn) ?_
  rw [sx_num]; exact q _ _
/- '0' * n -/
theorem x_zeros {z : Int} (h0 : 0 ≤ z) (h1 : z < 6) (q : ∀ u t', Q (.str (Sx (List.replicate z.toNat 48)) u) (St b h t')) : wpAny (model prog w) A (binaryOp .Mult (.str (Str.ofString "0") u) (.int z u')) Q E (St b h t) := by
  obtain ⟨k, rfl⟩ := Int.eq_ofNat_of_zero_le h0
  match k, h1 with
  | 0, _ => exact P.mul_str_none (s := St b h t) (by decide) (by decide) (q _ _)
  | 1, _ => exact P.mul_str (s := St b h t) (by decide) (by decide) (by decide) (q u t)
  | 2, _ => exact P.mul_str (s := St b h t) (by decide) (by decide) (by decide) ⟨by decide, q _ _⟩
  | 3, _ => exact P.mul_str (s := St b h t) (by decide) (by decide) (by decide) ⟨by decide, q _ _⟩
  | 4, _ => exact P.mul_str (s := St b h t) (by decide) (by decide) (by decide) ⟨by decide, q _ _⟩
  | 5, _ => exact P.mul_str (s := St b h t) (by decide) (by decide) (by decide) ⟨by decide, q _ _⟩
  | k + 6, h1 => exact absurd (Int.ofNat_lt.mp h1) (Nat.not_lt.mpr (Nat.le_add_left 6 k))
/- a + b of texts -/
theorem x_addS (hx : x = Sx cs) (hy : y = Sx ds) (hl : cs.length + ds.length ≤ 1000) (q : ∀ u t', Q (.str (Sx (cs ++ ds)) u) (St b h t')) : wpAny (model prog w) A (binaryOp .Add (.str x u) (.str y u')) Q E (St b h t) := by
  subst hx; subst hy
  refine SB.add (s := St b h t) (fun t' k => ?_) (by rw [sx_len, sx_len]; unfold sizeLine; omega)
  rw [sx_app]; exact q t' k
theorem x_lenS (hl : cs.length ≤ 1000) (q : ∀ u t', Q (.int (cs.length : Nat) u) (St b h t')) : wpAny (model prog w) A (call (.builtin "len") [.str (Sx cs) u]) Q E (St b h t) := by
  refine P.len_str (s := St b h t) (by rw [sx_len]; omega) ?_
  rw [sx_len]; exact q _ _
theorem x_lenT {r : Addr} {v v' : Value} (i : Is h r (.kT [v, v'])) (q : ∀ u t', Q (.int 2 u) (St b h t')) : wpAny (model prog w) A (call (.builtin "len") [.ref r]) Q E (St b h t) :=
  len_tuple (s := St b h t) i.tuple (show ((2 : Nat) : Int) < 2 ^ 63 by decide) (q _ _)
theorem keptFm : KeptH (fun h' => Fm W h₀ L dl h' m led) := fun h _ F => F.after (push_stays h _)
theorem cut_to {n : Int} (h0 : 0 ≤ n) (h1 : n ≤ cs.length) : Txt.slice (Sx cs) none (some n) = Sx (cs.take n.toNat) := by
  have e := eq_of_beq (slice_closes_toL (x := Sx cs) h0 (by rw [sx_len]; exact h1))
  rw [e]; simp
theorem cut_from {n : Int} (h0 : 0 ≤ n) (h1 : n ≤ cs.length) : Txt.slice (Sx cs) (some n) none = Sx (cs.drop n.toNat) := by
  have e := eq_of_beq (slice_closes_fromL (x := Sx cs) (b := (cs.length : Nat)) h0 (by rw [sx_len]; exact h1) (by rw [sx_len]))
  obtain ⟨k, rfl⟩ := Int.eq_ofNat_of_zero_le h0
  rw [e, sx_list, Int.toNat_sub, Int.toNat_natCast, List.take_of_length_le (by rw [List.length_drop]; exact Nat.le_refl _)]
theorem cut_mid {i j : Int} (h0 : 0 ≤ i) (h1 : i ≤ j) (h2 : j ≤ cs.length) : Txt.slice (Sx cs) (some i) (some j) = Sx ((cs.take j.toNat).drop i.toNat) := by
  have e := eq_of_beq (slice_closesL (x := Sx cs) h0 h1 (by rw [sx_len]; exact h2))
  obtain ⟨i', rfl⟩ := Int.eq_ofNat_of_zero_le h0
  obtain ⟨j', rfl⟩ := Int.eq_ofNat_of_zero_le (Int.le_trans h0 h1)
  rw [e, sx_list, List.drop_take, Int.toNat_sub, Int.toNat_natCast, Int.toNat_natCast]
theorem x_uptoS {x y : Str} {p1 p2 p pos : Pos} {n : Int} (F : Fm W h₀ L dl h m led) (hx : m.lookup x = some (.str (Sx cs) u)) (hy : m.lookup y = some (.int n u')) (h0 : 0 ≤ n) (h1 : n ≤ cs.length) (hl : cs.length ≤ 1000)
    (q : ∀ u h' t', Fm W h₀ L dl h' m led → Q (.str (Sx (cs.take n.toNat)) u) (St b h' t'))
    (hk : scope.kind = .function := by rfl) (hlx : (envOf name scope L a cd).kindOf x = some .local := by rfl) (hd : (x == ("__debug__" : Str)) = false := by decide) (hly : (envOf name scope L a cd).kindOf y = some .local := by rfl) (hdy : (y == ("__debug__" : Str)) = false := by decide) :
    wpAny (model prog w) A (eval (.Subscript (.Name x p1) (.Slice none (some (.Name y p2)) none p) pos) (envOf name scope L a cd)) Q E (St b h t) := by
  refine Subscript_ (r_loc F hx (wpAny_Slice (wpAny_evalPart_none (wpAny_evalPart_some (r_loc F hy (wpAny_evalPart_none ?_) hk hly hdy)))) hk hlx hd)
  refine tail_of_ItemOn (SBH.sliceItem_ns (s := St b h t) keptFm F (fun h' t' k F' => ?_) (by rw [sx_len]; unfold sizeLine; omega)) (by with_unfolding_all rfl) (by intro _; with_unfolding_all rfl)
  rw [cut_to h0 h1]; exact q t' h' k F'
theorem x_fromS {x y : Str} {p1 p2 p pos : Pos} {n : Int} (F : Fm W h₀ L dl h m led) (hx : m.lookup x = some (.str (Sx cs) u)) (hy : m.lookup y = some (.int n u')) (h0 : 0 ≤ n) (h1 : n ≤ cs.length) (hl : cs.length ≤ 1000)
    (q : ∀ u h' t', Fm W h₀ L dl h' m led → Q (.str (Sx (cs.drop n.toNat)) u) (St b h' t'))
    (hk : scope.kind = .function := by rfl) (hlx : (envOf name scope L a cd).kindOf x = some .local := by rfl) (hd : (x == ("__debug__" : Str)) = false := by decide) (hly : (envOf name scope L a cd).kindOf y = some .local := by rfl) (hdy : (y == ("__debug__" : Str)) = false := by decide) :
    wpAny (model prog w) A (eval (.Subscript (.Name x p1) (.Slice (some (.Name y p2)) none none p) pos) (envOf name scope L a cd)) Q E (St b h t) := by
  refine Subscript_ (r_loc F hx (wpAny_Slice (wpAny_evalPart_some (r_loc F hy (wpAny_evalPart_none (wpAny_evalPart_none ?_)) hk hly hdy))) hk hlx hd)
  refine tail_of_ItemOn (SBH.sliceItem_sn (s := St b h t) keptFm F (fun h' t' k F' => ?_) (by rw [sx_len]; unfold sizeLine; omega)) (by with_unfolding_all rfl) (by intro _; with_unfolding_all rfl)
  rw [cut_from h0 h1]; exact q t' h' k F'
/- x[e1:e2] of a text -/
theorem x_cutS {x : Str} {e1 e2 : Expr} {p1 p pos : Pos} (F : Fm W h₀ L dl h m led) (hx : m.lookup x = some (.str (Sx cs) u)) (hl : cs.length ≤ 1000)
    (q : wpAny (model prog w) A (eval e1 (envOf name scope L a cd)) (fun v1 s₁ => wpAny (model prog w) A (eval e2 (envOf name scope L a cd)) (fun v2 s₂ => ∃ i j u₁ u₂ m' led' h₁ t₁, v1 = .int i u₁ ∧ v2 = .int j u₂ ∧ s₂ = St b h₁ t₁ ∧ Fm W h₀ L dl h₁ m' led' ∧ 0 ≤ i ∧ i ≤ j ∧ j ≤ cs.length ∧
      ∀ u h' t', Fm W h₀ L dl h' m' led' → Q (.str (Sx ((cs.take j.toNat).drop i.toNat)) u) (St b h' t')) E s₁) E (St b h t))
    (hk : scope.kind = .function := by rfl) (hlx : (envOf name scope L a cd).kindOf x = some .local := by rfl) (hd : (x == ("__debug__" : Str)) = false := by decide) :
    wpAny (model prog w) A (eval (.Subscript (.Name x p1) (.Slice (some e1) (some e2) none p) pos) (envOf name scope L a cd)) Q E (St b h t) := by
  refine Subscript_ (r_loc F hx (wpAny_Slice (wpAny_evalPart_some (wpAny_mono q (fun v1 s₁ q => wpAny_evalPart_some (wpAny_mono q (fun v2 s₂ q => wpAny_evalPart_none ?_) fun _ _ e => e)) fun _ _ e => e))) hk hlx hd)
  obtain ⟨i, j, u₁, u₂, m', led', h₁, t₁, rfl, rfl, rfl, F', h0, h1, h2, q⟩ := q
  refine tail_of_ItemOn (SBH.sliceItem_ss (s := St b h₁ t₁) keptFm F' (fun h' t' k F'' => ?_) (by rw [sx_len]; unfold sizeLine; omega)) (by with_unfolding_all rfl) (by intro _; with_unfolding_all rfl)
  rw [cut_mid h0 h1 h2]; exact q t' h' k F''
/- an item of a tuple of texts -/
theorem x_itemTS {value slice : Expr} {l : Addr} {vs : List Value} {ns : List Str} {k : Int} (i : Is h l (.kT vs)) (hi : StrsAre vs ns) (h0 : 0 ≤ k) (h1 : k < ns.length) (h2 : k < 2 ^ 62) (q : ∀ u, Q (.str (ns.getD k.toNat Str.empty) u) (St b h t))
    (hs : subscripted slice false (.ref l) (.int k u) = operate [.ref l, .int k u] (getItem (.ref l) (.int k u)) := by with_unfolding_all rfl) (hg : ∀ r, letTemporaryGo value (.ref l) r = pure () := by intro _; with_unfolding_all rfl) :
    wpAny (model prog w) A (subscriptTail value slice (.ref l) (.int k u)) Q E (St b h t) := item_strsTu (s := St b h t) i.tuple hi h0 h1 (by omega) q hs hg
theorem in_dig : ∀ d : Nat, d < 10 → Txt.contains (Str.ofString "0123456789") (Sx [48 + d]) = true := by decide +kernel
theorem x_digit {c : Nat} (hc : 48 ≤ c ∧ c ≤ 57) (q : Q (.bool false) (St b h t)) : wpAny (model prog w) A (compareOp .NotIn (.str (Sx [c]) u) (.str (Str.ofString "0123456789") u')) Q E (St b h t) := by
  refine SB.notContains (s := St b h t) ?_
  have := in_dig (c - 48) (by omega)
  rw [show 48 + (c - 48) = c by omega] at this
  rw [this]; exact q
def marks : List Nat := [45, 95, 32, 120, 43, 46, 47, 58]
theorem in_mark : ∀ c ∈ marks, Txt.contains (Str.ofString "0123456789") (Sx [c]) = false := by decide +kernel
theorem x_mark {c : Nat} (hc : c ∈ marks) (q : Q (.bool true) (St b h t)) : wpAny (model prog w) A (compareOp .NotIn (.str (Sx [c]) u) (.str (Str.ofString "0123456789") u')) Q E (St b h t) := by
  refine SB.notContains (s := St b h t) ?_
  rw [in_mark c hc]; exact q
theorem x_eqS (hx : x = Sx cs) (hy : y = Sx ds) {c : Bool} (hc : (cs == ds) = c) (q : Q (.bool c) (St b h t)) : wpAny (model prog w) A (compareOp .Eq (.str x u) (.str y u')) Q E (St b h t) := by
  subst hx; subst hy
  refine P.eq_str (s := St b h t) ?_
  rw [sx_list, sx_list, hc]; exact q
theorem x_neS (hx : x = y) (q : Q (.bool false) (St b h t)) : wpAny (model prog w) A (compareOp .NotEq (.str x u) (.str y u')) Q E (St b h t) := by
  subst hx
  refine P.ne_str (s := St b h t) ?_
  rw [bne_self_eq_false]; exact q
/- int of a text -/
theorem x_intS (hd : Dig cs) (hne : cs ≠ []) (hl : cs.length ≤ 600) (q : ∀ u t', Q (.int ((dv cs : Nat) : Int) u) (St b h t')) : wpAny (model prog w) A (call (.type "int") [.str (Sx cs) u]) Q E (St b h t) := by
  have e : intText? (Sx cs) = some ((dv cs : Nat) : Int) := by
    have := intText_digits (x := Sx cs) (by rw [sx_list]; exact hd) (by rw [sx_list]; exact hne) (by rw [sx_len]; omega)
    rw [sx_list] at this; exact this
  exact PySem.W.KIN.call_text (s := St b h t) e (by rw [sx_len]; omega) (q _ _)
theorem zfill_p4 {r : Nat} (hr : r < 10000) : Txt.zfill (Sx (ts r)) 4 = Sx (p4 r) := by
  have hl := ts_len (n := r) (k := 4) (by decide) hr
  have hp := ts_pad hr
  unfold Txt.zfill
  rw [sx_len]
  by_cases c : (4 : Int) ≤ ((ts r).length : Nat)
  · rw [if_pos c]
    rw [show 4 - (ts r).length = 0 by omega, List.replicate_zero, List.nil_append] at hp
    rw [hp]
  · rw [if_neg c]
    obtain ⟨d, rest, hd⟩ := List.exists_cons_of_ne_nil (ts_ne r)
    have hdd := ts_dig r d (by rw [hd]; exact .head _)
    have e : zfilled (Sx (ts r)) ((4 : Int).toNat - (ts r).length) = Builtin.Str.padded (Sx (ts r)) ((4 : Int).toNat - (ts r).length) 0 48 := by
      unfold zfilled
      have h0 : (Sx (ts r)).cps[0]? = some d := by rw [hd]; simp
      rw [h0]
      split
      · rename_i q; cases q; omega
      · rename_i q; cases q; omega
      · rfl
    rw [e]
    refine sx_of ?_
    unfold Builtin.Str.padded
    rw [← hp]
    simp
/- E.zfill(4) -/
theorem x_zfill {o : Expr} {kk : Nat} {cp apos pos : Pos} (q : wpAny (model prog w) A (eval o (envOf name scope L a cd)) (fun v s₁ => ∃ r u h₁ t₁, v = .str (Sx (ts r)) u ∧ s₁ = St b h₁ t₁ ∧ r < 10000 ∧ ∀ u t', Q (.str (Sx (p4 r)) u) (St b h₁ t')) E (St b h t))
    (hbase : attributeBase o "zfill" (envOf name scope L a cd) (eval o (envOf name scope L a cd)) = eval o (envOf name scope L a cd) := by rfl)
    (hs : starEach [.Constant (.int 4) kk cp] (envOf name scope L a cd) = [(false, eval (.Constant (.int 4) kk cp) (envOf name scope L a cd))] := by rfl) (hline : (apos.endLine == pos.line) = true := by rfl) :
    wpAny (model prog w) A (eval (.Call (.Attribute o "zfill" apos) [.Constant (.int 4) kk cp] [] pos) (envOf name scope L a cd)) Q E (St b h t) := by
  refine Call_method1 hbase hs hline (wpAny_mono q (fun v s₁ q => ?_) fun _ _ e => e)
  obtain ⟨r, u, h₁, t₁, rfl, rfl, hr, q⟩ := q
  refine SB.zfill (x_int fun u' t' => ⟨4, u', rfl, by decide, fun t'' k => ?_⟩)
  rw [zfill_p4 hr]; exact q t'' k
theorem Is.plainS {h : Heap} {a : Addr} {l : List (Str × Tok)} (x : Is h a (.kS l)) : PlainL h a (strValues l).toArray :=
  let ⟨o, ho, n, c, dn, d⟩ := x; ⟨o, n, ho, c, dn, d⟩
theorem Is.ofPlainS {h : Heap} {a : Addr} {l : List (Str × Tok)} (x : PlainL h a (strValues l).toArray) : Is h a (.kS l) :=
  let ⟨o, n, ho, c, dn, d⟩ := x; ⟨o, ho, n, c, dn, d⟩
/- a new list of one text -/
theorem x_newListS {x : Str} {u : Tok} (F : Fm W h₀ L none h m led) (q : ∀ r h', Fm W h₀ L (some (r, .kS [(x, u)])) h' m led → Q (.ref r) (St b h' t)) : wpAny M A (newList [.str x u]) Q E (St b h t) :=
  wpAny_newObj_type (s := St b h t) (q _ _ (F.toD (push_stays h _) (new_none h) ⟨_, Heap.get?_push_size _ rfl, 0, rfl, rfl, rfl⟩)) (by show 1 ≤ sizeLine; decide)
theorem x_appendS {D : Addr} {l : List (Str × Tok)} {v : Str} {u : Tok} (F : Fm W h₀ L (some (D, .kS l)) h m led) (h1 : l.length ≤ 10000)
    (q : ∀ h', Fm W h₀ L (some (D, .kS (l ++ [(v, u)]))) h' m led → Q .none (St b h' t)) : wpAny (model prog w) A (call (.builtin "list.append") [.ref D, .str v u]) Q E (St b h t) := by
  refine list_append_plainL (s := St b h t) F.hasD.plainS (fun h' hl' hs => q h' (F.change hs (Is.ofPlainS ?_))) (by rw [List.size_toArray]; unfold strValues; rw [List.length_map]; unfold sizeLine; omega)
  have e : (strValues l).toArray.push (.str v u) = (strValues (l ++ [(v, u)])).toArray := by simp [strValues]
  rw [← e]; exact hl'
theorem x_appendCallS {D : Addr} {l : List (Str × Tok)} {x : Str} {elt : Expr} {p1 apos pos : Pos} (F : Fm W h₀ L (some (D, .kS l)) h m led) (hx : m.lookup x = some (.ref D))
    (q : wpAny (model prog w) A (eval elt (envOf name scope L a cd)) (fun y s₂ => wpAny (model prog w) A (call (.builtin "list.append") [.ref D, y]) Q E s₂) E (St b h t))
    (hbase : attributeBase (.Name x p1) "append" (envOf name scope L a cd) (eval (.Name x p1) (envOf name scope L a cd)) = eval (.Name x p1) (envOf name scope L a cd) := by rfl)
    (hfew : ((backTo pos (starEach [elt] (envOf name scope L a cd))).all (fun x => !x.1) && (backToKw pos (keywordEach [] (envOf name scope L a cd))).all (fun x => x.1.isSome)
      && decide (([elt] : List Expr).length + ([] : List Keyword).length + (if ([] : List Keyword).isEmpty then 0 else 1) < 30)) = true := by rfl)
    (hline : (apos.endLine == pos.line) = true := by rfl)
    (htrees : backTo pos (starEach [elt] (envOf name scope L a cd)) = [(false, eval elt (envOf name scope L a cd))] := by rfl)
    (hk : scope.kind = .function := by rfl) (hl : (envOf name scope L a cd).kindOf x = some .local := by rfl) (hd : (x == ("__debug__" : Str)) = false := by decide) :
    wpAny (model prog w) A (eval (.Call (.Attribute (.Name x p1) "append" apos) [elt] [] pos) (envOf name scope L a cd)) Q E (St b h t) :=
  wpAny_Call_append hbase hfew hline htrees (r_loc F hx ⟨D, (strValues l).toArray, rfl, F.hasD.plainS, q⟩ hk hl hd)
theorem join_flat : ∀ (l : List Str), Str.join (Str.ofString "") l = Sx (l.flatMap fun y => y.cps.toList)
  | [] => rfl
  | [y] => sx_of (by show y.cps.toList = _; simp)
  | y :: z :: r => by
    have ih := join_flat (z :: r)
    refine sx_of ?_
    show (y ++ Str.ofString "" ++ Str.join (Str.ofString "") (z :: r)).cps.toList = _
    rw [PySem.W.KT.app_list, PySem.W.KT.app_list, ih, sx_list, List.flatMap_cons (x := y)]
    have : (Str.ofString "").cps.toList = [] := by decide
    rw [this, List.append_nil]
theorem lens_flat : ∀ (l : List Str), (l.map (·.length)).sum = (l.flatMap fun y => y.cps.toList).length
  | [] => rfl
  | y :: r => by
    rw [List.map_cons, List.sum_cons, lens_flat r, List.flatMap_cons, List.length_append]
    rw [show y.cps.toList.length = y.length from Array.length_toList]
set_option maxRecDepth 100000 in
/- ''.join(x) -/
theorem x_join {D : Addr} {l : List (Str × Tok)} {x : Str} {kk : Nat} {cp np apos pos : Pos} (F : Fm W h₀ L (some (D, .kS l)) h m led) (hx : m.lookup x = some (.ref D)) (hf : ((l.map (·.1)).flatMap fun y => y.cps.toList) = cs) (hl : cs.length ≤ 1000)
    (q : ∀ u t', Q (.str (Sx cs) u) (St b h t'))
    (hbase : attributeBase (.Constant (.str (Str.ofString "")) kk cp) "join" (envOf name scope L a cd) (eval (.Constant (.str (Str.ofString "")) kk cp) (envOf name scope L a cd)) = eval (.Constant (.str (Str.ofString "")) kk cp) (envOf name scope L a cd) := by rfl)
    (hs : starEach [.Name x np] (envOf name scope L a cd) = [(false, eval (.Name x np) (envOf name scope L a cd))] := by rfl) (hline : (apos.endLine == pos.line) = true := by rfl)
    (hk : scope.kind = .function := by rfl) (hlx : (envOf name scope L a cd).kindOf x = some .local := by rfl) (hd : (x == ("__debug__" : Str)) = false := by decide) :
    wpAny (model prog w) A (eval (.Call (.Attribute (.Constant (.str (Str.ofString "")) kk cp) "join" apos) [.Name x np] [] pos) (envOf name scope L a cd)) Q E (St b h t) := by
  refine Call_method1 hbase hs hline (x_str fun u t' => SB.join (r_loc F hx ⟨D, l, rfl, ?_, _, rfl, ?_, fun t'' k => ?_⟩ hk hlx hd))
  · obtain ⟨o, n, ho, hc, _, hdt⟩ := F.hasD.plainS
    exact ⟨o, ho, hc, n, hdt⟩
  · refine joinOk_of ?_
    rw [lens_flat, hf, show (Str.ofString "").length = 0 by decide]
    omega
  · show Q (.str (Builtin.Str.glued _ _) _) _
    rw [StrLaws.glued_eq_join, join_flat, hf]
    exact q t'' k
end
end Mine
namespace Mine
open PySem PySem.Calls PyProof.Rows
set_option Elab.async false
set_option maxRecDepth 100000
set_option maxHeartbeats 4000000
set_option linter.unusedVariables false
abbrev pw : Program := PySem.Challenge.pw_sx_ylimbs_2
abbrev Wx (mg mb : Str → Option Value) : Wd := ⟨pw, ["len", "range", "max", "type", "list", "int", "str", "tuple", "ValueError", "ZeroDivisionError"], [("_law_borders", [0, 1, 2, 99, 100, 9999, 10000, 99999999])], [("_law_marks", ["-", "_", " ", "x", "+", ".", "/", ":"])], mg, mb⟩
set_option compiler.extract_closed false in
local macro_rules | `(tactic| walk_at "m_n") => `(tactic| first | with_reducible assumption | decide | with_reducible exact Int.natCast_nonneg _ | with_reducible exact n_neg _ | with_reducible exact Int.emod_nonneg _ (by decide) | with_reducible exact e_lt (by decide) (by decide) | with_reducible exact rfl | with_reducible exact n_add0 _ _ | with_reducible exact e_le (by decide) (by decide) | with_reducible exact e_tn (by decide) (by decide) | with_reducible exact e1_nn (by decide) (by decide) | with_reducible exact e1_pos (by decide) | with_reducible exact e1_lt (by decide) (by decide) | with_reducible exact n_odd _ | with_reducible exact Nat.le_trans (by with_reducible assumption) (by decide) | with_reducible exact Nat.lt_of_lt_of_le (by with_reducible assumption) (by decide) | with_reducible exact Nat.lt_of_le_of_lt (by with_reducible assumption) (by decide) | with_reducible exact n_ltZ (by with_reducible assumption) (by decide) | with_reducible exact n_leZ (by with_reducible assumption) (by decide) | with_reducible exact n_leY (by with_reducible assumption) (by decide) | with_reducible exact n_gtZ (by with_reducible assumption) (by decide) | with_reducible exact z_lt (by with_reducible assumption) (by decide) | with_reducible exact Int.ofNat_lt.mpr (by with_reducible assumption) | with_reducible exact z_neg (by with_reducible assumption) | with_reducible exact n_llZ (by with_reducible assumption) (by with_reducible assumption) (by decide) | with_reducible exact And.left (by with_reducible assumption) | with_reducible exact And.right (by with_reducible assumption) | omega)
set_option compiler.extract_closed false in
local macro_rules | `(tactic| walk_at "m_mem") => `(tactic| first | with_reducible exact List.mem_cons_self | (with_reducible refine List.mem_cons_of_mem _ ?_; walk_at "m_mem"))
set_option compiler.extract_closed false in
local macro_rules | `(tactic| walk_at "m_has") => `(tactic| first | exact Fm.has (by with_reducible assumption) (by walk_at "m_mem") | exact Is.pl_ints (Fm.has (by with_reducible assumption) (by walk_at "m_mem")) | exact Fm.hasD (by with_reducible assumption) | exact Is.pl_ints (Fm.hasD (by with_reducible assumption)))
set_option compiler.extract_closed false in
local macro_rules | `(tactic| walk_at "m_sub") => `(tactic| first | exact sub_nil | exact fun _ h => h | (refine sub_cons (by walk_at "m_mem") ?_; walk_at "m_sub"))
set_option compiler.extract_closed false in
local macro_rules | `(tactic| walk_at "m_Sub") => `(tactic| first | exact True.intro | (refine And.intro (by rfl) ?_; walk_at "m_Sub"))
set_option compiler.extract_closed false in
local macro_rules | `(tactic| walk_at "m_up") => `(tactic| first | exact fun _ h => h | exact fun _ h => List.mem_append_left _ h | exact fun _ h => List.mem_append_right _ h | (refine up_cons ?_; walk_at "m_up"))
section
variable {mg mb : Str → Option Value} {prog : Program} {w : World} {A : Around} {E : Value → Shared → Prop} {b : Shared} {h₀ h : Heap} {L a a' f : Addr} {dl : Option (Addr × Kd)} {t : Nat}
  {m : List (Str × Value)} {led : List Ent} {Q : Value → Shared → Prop} {nm : Str} {ps : Arguments} {bd : List Stmt} {sc : Scope}
theorem trimmed_c {xs : List Int} (F : Fm (Wx mg mb) h₀ L dl h m led) (hd : defAt pw 2 = some (nm, ps, bd, sc)) (hf : FnRef h₀ f (nm, ps, bd, sc)) (x : Is h a (.kI xs)) (hn : xs.length ≤ 5000) (ok : Ok xs) (hA : Rm 1 A)
    (k : ∀ r h' t', Fm (Wx mg mb) h₀ L dl h' m ((r, .kP (dg (vl xs).toNat), true) :: led) → Q (.ref r) (St b h' t')) :
    wpAny (model prog w) A (call (.ref f) [.ref a]) Q E (St b h t) := by
  cases hd
  refine r_enter F hf hA [("a", .ref a)] [(a, .kI xs, false)] ⟨⟨x, rfl⟩, trivial⟩ ?_
  intro L' h₁ t₁ code F₁
  refine execs_asg ?_
  (refine r_len (by with_reducible assumption) (by rfl) (by walk_at "m_has") (by walk_at "m_n") ?_ (by walk_at "m_mem"); intro _ _)
  (refine r_store (by with_reducible assumption) ?_; intro _ _ _)
  with_reducible refine wpAny_execs_cons ?_
  refine r_while (σ := Int × Tok) (fun _ => none) (fun c => [("n", .int c.1 c.2), ("a", .ref a)]) (fun _ => [(a, .kI xs, false)]) (fun c => 0 ≤ c.1 ∧ c.1 ≤ xs.length ∧ vl (xs.take c.1.toNat) = vl xs) (fun c => c.1.toNat) (xs.length, _) (Fm.wk (by assumption) (by walk_at "m_Sub") (by walk_at "m_sub")) ⟨by simp, by simp, by simp⟩ ?_
  rintro ⟨n, u⟩ h₂ t₂ E' ⟨hn0, hn1, hn2⟩ F₂
  dsimp only at hn0 hn1 hn2 F₂ ⊢
  with_reducible refine wpAny_isTrue_BoolOp ?_
  with_reducible refine wpAny_allTrue_And_cons ?_
  refine wpAny_isTrue_Compare1 ?_
  refine r_loc (by with_reducible assumption) (by rfl) ?_
  ((with_reducible refine x_int ?_); intro _ _)
  with_reducible refine P.gt_int ?_
  with_reducible refine wpAny_truthy_bool ?_
  refine ite_dec (fun q1 => ?_) (fun q1 => ?_)
  · with_reducible refine wpAny_allTrue_And_cons ?_
    refine wpAny_isTrue_Compare1 ?_
    refine Subscript_ ?_
    refine r_loc (by with_reducible assumption) (by rfl) ?_
    with_reducible refine wpAny_BinOp ?_
    refine r_loc (by with_reducible assumption) (by rfl) ?_
    ((with_reducible refine x_int ?_); intro _ _)
    ((with_reducible refine x_sub ?_); intro _ _)
    (refine x_item (by walk_at "m_has") (by walk_at "m_n") (by walk_at "m_n") (by walk_at "m_n") ?_; intro _)
    ((with_reducible refine x_int ?_); intro _ _)
    with_reducible refine P.eq_int ?_
    with_reducible refine wpAny_truthy_bool ?_
    refine ite_beq (fun q2 => ?_) (fun q2 => ?_)
    · with_reducible refine wpAny_allTrue_And_nil ?_
      with_reducible refine ite_t ?_
      with_reducible refine wpAny_execs_cons ?_
      with_reducible refine wpAny_AugAssign_Name ?_
      refine r_locn (by with_reducible assumption) (by rfl) ?_
      ((with_reducible refine x_int ?_); intro _ _)
      ((with_reducible refine x_isub ?_); intro _ _)
      (refine r_store (by with_reducible assumption) ?_; intro _ _ _)
      with_reducible refine wpAny_execs_nil ?_
      refine turn_next (n - 1, _) (by assumption) rfl (by walk_at "m_Sub") (by walk_at "m_sub") ⟨⟨by dsimp only; omega, by dsimp only; omega, ?_⟩, by dsimp only; omega⟩
      skip
      rw [Int.pred_toNat n] at q2 ⊢
      rw [trim_step (by walk_at "m_n") (by walk_at "m_n") q2]; exact hn2
    · with_reducible refine ite_f ?_
      with_reducible refine wpAny_execs_cons ?_
      with_reducible refine wpAny_Return_some ?_
      (refine x_uptoN (by with_reducible assumption) (by rfl) (by rfl) (by walk_at "m_has") (by walk_at "m_n") (by walk_at "m_n") ?_; intro _ _ _)
      skip
      rename_i r h' F'
      rw [trim_done ok (by walk_at "m_n") hn2 (.inr (by rw [Int.pred_toNat n] at q2; exact q2))] at F'
      exact k r h' _ (F.back F' (by walk_at "m_mem"))
  · with_reducible refine ite_f ?_
    with_reducible refine wpAny_execs_cons ?_
    with_reducible refine wpAny_Return_some ?_
    (refine x_uptoN (by with_reducible assumption) (by rfl) (by rfl) (by walk_at "m_has") (by walk_at "m_n") (by walk_at "m_n") ?_; intro _ _ _)
    skip
    rename_i r h' F'
    rw [trim_done ok (by walk_at "m_n") hn2 (.inl (by walk_at "m_n"))] at F'
    exact k r h' _ (F.back F' (by walk_at "m_mem"))

end
section
variable {mg mb : Str → Option Value} {prog : Program} {w : World} {A : Around} {E : Value → Shared → Prop} {b : Shared} {h₀ h : Heap} {L a a' f : Addr} {dl : Option (Addr × Kd)} {t : Nat}
  {m : List (Str × Value)} {led : List Ent} {Q : Value → Shared → Prop} {nm : Str} {ps : Arguments} {bd : List Stmt} {sc : Scope}

theorem compare_c {x y : Nat} (F : Fm (Wx mg mb) h₀ L dl h m led) (hd : defAt pw 3 = some (nm, ps, bd, sc)) (hf : FnRef h₀ f (nm, ps, bd, sc)) (hx : Is h a (.kI (dg x))) (hy : Is h a' (.kI (dg y)))
    (hnx : (dg x).length ≤ 5000) (hny : (dg y).length ≤ 5000) (hA : Rm 1 A)
    (k : ∀ u h' t', Fm (Wx mg mb) h₀ L dl h' m led → Q (.int (cmpI x y) u) (St b h' t')) :
    wpAny (model prog w) A (call (.ref f) [.ref a, .ref a']) Q E (St b h t) := by
  cases hd
  refine r_enter F hf hA [("a", .ref a), ("b", .ref a')] [(a, .kI (dg x), false), (a', .kI (dg y), false)] ⟨⟨hx, rfl⟩, ⟨hy, rfl⟩, trivial⟩ ?_
  intro L' h₁ t₁ code F₁
  refine execs_ifC ?_
  (refine r_len (by with_reducible assumption) (by rfl) (by walk_at "m_has") (by walk_at "m_n") ?_ (by walk_at "m_mem"); intro _ _)
  (refine r_len (by with_reducible assumption) (by rfl) (by walk_at "m_has") (by walk_at "m_n") ?_ (by walk_at "m_mem"); intro _ _)
  with_reducible refine P.ne_int ?_
  with_reducible refine wpAny_truthy_bool ?_
  refine ite_bne (fun q1 => ?_) (fun q1 => ?_)
  · with_reducible refine wpAny_execs_cons ?_
    with_reducible refine wpAny_Return_some ?_
    with_reducible refine wpAny_IfExp ?_
    refine wpAny_isTrue_Compare1 ?_
    (refine r_len (by with_reducible assumption) (by rfl) (by walk_at "m_has") (by walk_at "m_n") ?_ (by walk_at "m_mem"); intro _ _)
    (refine r_len (by with_reducible assumption) (by rfl) (by walk_at "m_has") (by walk_at "m_n") ?_ (by walk_at "m_mem"); intro _ _)
    with_reducible refine P.lt_int ?_
    with_reducible refine wpAny_truthy_bool ?_
    skip
    refine ite_dec (fun q2 => ?_) (fun q2 => ?_)
    · with_reducible refine wpAny_UnaryOp ?_
      ((with_reducible refine x_int ?_); intro _ _)
      ((with_reducible refine x_neg ?_); intro _ _)
      have := len_lt (x := x) (y := y) (by walk_at "m_n")
      have e : cmpI x y = -1 := by unfold cmpI; rw [if_pos this]
      rw [← e]; exact k _ _ _ (F.back0 F₁)
    · ((with_reducible refine x_int ?_); intro _ _)
      have := len_lt (x := y) (y := x) (by walk_at "m_n")
      have e : cmpI x y = 1 := by unfold cmpI; rw [if_neg (by walk_at "m_n"), if_neg (by walk_at "m_n")]
      rw [← e]; exact k _ _ _ (F.back0 F₁)
  · with_reducible refine wpAny_execs_nil ?_
    with_reducible refine wpAny_execs_cons ?_
    refine wpAny_For ?_
    refine r_tcall bb_range (by with_reducible assumption) (by walk_at "m_mem") ?_
    refine args_cons ?_
    with_reducible refine wpAny_BinOp ?_
    (refine r_len (by with_reducible assumption) (by rfl) (by walk_at "m_has") (by walk_at "m_n") ?_ (by walk_at "m_mem"); intro _ _)
    ((with_reducible refine x_int ?_); intro _ _)
    ((with_reducible refine x_sub ?_); intro _ _)
    refine args_cons ?_
    with_reducible refine wpAny_UnaryOp ?_
    ((with_reducible refine x_int ?_); intro _ _)
    ((with_reducible refine x_neg ?_); intro _ _)
    refine args_cons ?_
    with_reducible refine wpAny_UnaryOp ?_
    ((with_reducible refine x_int ?_); intro _ _)
    ((with_reducible refine x_neg ?_); intro _ _)
    with_reducible refine args_nil ?_
    (refine x_range3 (by with_reducible assumption) ?_; intro _ _ _ _)
    have hl : (dg x).length = (dg y).length := by walk_at "m_n"
    refine r_down (dg x).length (by walk_at "m_n") (by assumption) (by walk_at "m_mem") (by walk_at "m_n") hA.hd (σ := Unit) (fun _ => none) (fun _ => [("a", .ref a), ("b", .ref a')]) (fun _ => []) [(a, .kI (dg x), false), (a', .kI (dg y), false)] (fun p _ => (dg x).drop p = (dg y).drop p) () rfl (by walk_at "m_Sub") (by walk_at "m_sub") (fun _ _ q => nomatch q)
      (by rw [List.drop_of_length_le (Nat.le_refl _), List.drop_of_length_le (by walk_at "m_n")]) ?_ ?_
    · rintro j ⟨⟩ u' h₂ t₂ o I E' hj hJ F₂
      dsimp only [List.nil_append, List.cons_append] at hJ F₂ ⊢
      refine execs_ifC ?_
      refine Subscript_ ?_
      refine r_loc (by with_reducible assumption) (by rfl) ?_
      refine r_loc (by with_reducible assumption) (by rfl) ?_
      (refine x_item (by walk_at "m_has") (by walk_at "m_n") (by walk_at "m_n") (by walk_at "m_n") ?_; intro _)
      refine Subscript_ ?_
      refine r_loc (by with_reducible assumption) (by rfl) ?_
      refine r_loc (by with_reducible assumption) (by rfl) ?_
      (refine x_item (by walk_at "m_has") (by walk_at "m_n") (by walk_at "m_n") (by walk_at "m_n") ?_; intro _)
      with_reducible refine P.ne_int ?_
      with_reducible refine wpAny_truthy_bool ?_
      refine ite_bne (fun q2 => ?_) (fun q2 => ?_)
      · with_reducible refine wpAny_execs_cons ?_
        with_reducible refine wpAny_Return_some ?_
        with_reducible refine wpAny_IfExp ?_
        refine wpAny_isTrue_Compare1 ?_
        refine Subscript_ ?_
        refine r_loc (by with_reducible assumption) (by rfl) ?_
        refine r_loc (by with_reducible assumption) (by rfl) ?_
        (refine x_item (by walk_at "m_has") (by walk_at "m_n") (by walk_at "m_n") (by walk_at "m_n") ?_; intro _)
        refine Subscript_ ?_
        refine r_loc (by with_reducible assumption) (by rfl) ?_
        refine r_loc (by with_reducible assumption) (by rfl) ?_
        (refine x_item (by walk_at "m_has") (by walk_at "m_n") (by walk_at "m_n") (by walk_at "m_n") ?_; intro _)
        with_reducible refine P.lt_int ?_
        with_reducible refine wpAny_truthy_bool ?_
        skip
        refine ite_dec (fun q3 => ?_) (fun q3 => ?_)
        · with_reducible refine wpAny_UnaryOp ?_
          ((with_reducible refine x_int ?_); intro _ _)
          ((with_reducible refine x_neg ?_); intro _ _)
          have := cmp_lt (ok_dg x) (ok_dg y) hl hj hJ (by simpa using q3)
          rw [vl_dg, vl_dg] at this
          have e : cmpI x y = -1 := by unfold cmpI; rw [if_pos (by walk_at "m_n")]
          show Q _ _
          rw [← e]; exact k _ _ _ (F.back0 F₂)
        · ((with_reducible refine x_int ?_); intro _ _)
          have := cmp_lt (i := j) (ok_dg y) (ok_dg x) hl.symm (by walk_at "m_n") hJ.symm (by simp only [Int.toNat_natCast] at q2 q3; walk_at "m_n")
          rw [vl_dg, vl_dg] at this
          have e : cmpI x y = 1 := by unfold cmpI; rw [if_neg (by walk_at "m_n"), if_neg (by walk_at "m_n")]
          show Q _ _
          rw [← e]; exact k _ _ _ (F.back0 F₂)
      · with_reducible refine wpAny_execs_nil ?_
        with_reducible refine wpAny_execs_nil ?_
        refine turn_next () (by assumption) rfl (by walk_at "m_Sub") (by walk_at "m_sub") ?_
        try dsimp only
        rw [drop_getD hj, drop_getD (xs := dg y) (by walk_at "m_n"), hJ]
        simp only [Int.toNat_natCast] at q2
        rw [q2]
    · rintro ⟨⟩ h₂ t₂ hJ F₂
      dsimp only [List.nil_append, List.cons_append] at hJ F₂ ⊢
      with_reducible refine wpAny_execs_cons ?_
      with_reducible refine wpAny_Return_some ?_
      ((with_reducible refine x_int ?_); intro _ _)
      skip
      have : x = y := dg_inj (by simpa using hJ)
      have e : cmpI x y = 0 := by unfold cmpI; rw [if_neg (by walk_at "m_n"), if_pos (by walk_at "m_n")]
      rw [← e]; exact k _ _ _ (F.back0 F₂)
end
section
variable {mg mb : Str → Option Value} {prog : Program} {w : World} {A : Around} {E : Value → Shared → Prop} {b : Shared} {h₀ h : Heap} {L a a' f : Addr} {dl : Option (Addr × Kd)} {t : Nat}
  {m : List (Str × Value)} {led : List Ent} {Q : Value → Shared → Prop} {nm : Str} {ps : Arguments} {bd : List Stmt} {sc : Scope}

theorem add_c {x y : Nat} (F : Fm (Wx mg mb) h₀ L dl h m led) (hd : defAt pw 4 = some (nm, ps, bd, sc)) (hf : FnRef h₀ f (nm, ps, bd, sc)) (hx : Is h a (.kI (dg x))) (hy : Is h a' (.kI (dg y)))
    (hnx : (dg x).length ≤ 5000) (hny : (dg y).length ≤ 5000) (hA : Rm 1 A)
    (k : ∀ r h' t', Fm (Wx mg mb) h₀ L dl h' m ((r, .kP (dg (x + y)), true) :: led) → Q (.ref r) (St b h' t')) :
    wpAny (model prog w) A (call (.ref f) [.ref a, .ref a']) Q E (St b h t) := by
  cases hd
  refine r_enter F hf hA [("a", .ref a), ("b", .ref a')] [(a, .kI (dg x), false), (a', .kI (dg y), false)] ⟨⟨hx, rfl⟩, ⟨hy, rfl⟩, trivial⟩ ?_
  intro L' h₁ t₁ code F₁
  have hh := hA.hd
  refine execs_asg ?_
  with_reducible refine List_ ?_
  with_reducible refine args_nil ?_
  skip
  refine x_newListD (by assumption) .nil (by decide) ?_
  intro D h₂ F₂
  (refine r_store (by with_reducible assumption) ?_; intro _ _ _)
  refine execs_asg ?_
  ((with_reducible refine x_int ?_); intro _ _)
  (refine r_store (by with_reducible assumption) ?_; intro _ _ _)
  with_reducible refine wpAny_execs_cons ?_
  refine wpAny_For ?_
  refine r_tcall bb_range (by with_reducible assumption) (by walk_at "m_mem") ?_
  refine args_cons ?_
  refine r_bcall bb_max (by with_reducible assumption) (by walk_at "m_mem") ?_
  refine args_cons ?_
  (refine r_len (by with_reducible assumption) (by rfl) (by walk_at "m_has") (by walk_at "m_n") ?_ (by walk_at "m_mem"); intro _ _)
  refine args_cons ?_
  (refine r_len (by with_reducible assumption) (by rfl) (by walk_at "m_has") (by walk_at "m_n") ?_ (by walk_at "m_mem"); intro _ _)
  with_reducible refine args_nil ?_
  (refine x_max (by with_reducible assumption) (by assumption) ?_; intro _ _ _ _)
  with_reducible refine args_nil ?_
  (refine x_range1 (by with_reducible assumption) ?_; intro _ _ _ _ _ _ _)
  refine r_up (max (dg x).length (dg y).length) (by walk_at "m_n") (by assumption) (by walk_at "m_mem") (by walk_at "m_n") hh (σ := List Int × Int × Tok) (fun c => some (D, .kP c.1)) (fun c => [("total", .ref D), ("carry", .int c.2.1 c.2.2), ("a", .ref a), ("b", .ref a')]) (fun _ => []) [(a, .kI (dg x), false), (a', .kI (dg y), false)]
    (fun i c => AddJ (dg x) (dg y) c.1 c.2.1 i) ([], 0, _) rfl (by walk_at "m_Sub") (by walk_at "m_sub") (fun _ _ q => nomatch q) ⟨rfl, ok_nil, by simp, by simp, by simp [vl]⟩ ?_ ?_
  · rintro j ⟨tot, c, u⟩ u' h₂ t₂ o I E' hj hJ F₂
    dsimp only [List.nil_append, List.cons_append] at hJ F₂ ⊢
    have hl := hJ.len
    refine execs_asg ?_
    refine r_loc (by with_reducible assumption) (by rfl) ?_
    (refine r_store (by with_reducible assumption) ?_; intro _ _ _)
    refine execs_ifC ?_
    refine r_loc (by with_reducible assumption) (by rfl) ?_
    (refine r_len (by with_reducible assumption) (by rfl) (by walk_at "m_has") (by walk_at "m_n") ?_ (by walk_at "m_mem"); intro _ _)
    with_reducible refine P.lt_int ?_
    with_reducible refine wpAny_truthy_bool ?_
    refine ite_dec (fun q1 => ?_) (fun q1 => ?_)
    · with_reducible refine wpAny_execs_cons ?_
      with_reducible refine wpAny_AugAssign_Name ?_
      refine r_locn (by with_reducible assumption) (by rfl) ?_
      refine Subscript_ ?_
      refine r_loc (by with_reducible assumption) (by rfl) ?_
      refine r_loc (by with_reducible assumption) (by rfl) ?_
      (refine x_item (by walk_at "m_has") (by walk_at "m_n") (by walk_at "m_n") (by walk_at "m_n") ?_; intro _)
      ((with_reducible refine x_iadd ?_); intro _ _)
      (refine r_store (by with_reducible assumption) ?_; intro _ _ _)
      with_reducible refine wpAny_execs_nil ?_
      refine execs_ifC ?_
      refine r_loc (by with_reducible assumption) (by rfl) ?_
      (refine r_len (by with_reducible assumption) (by rfl) (by walk_at "m_has") (by walk_at "m_n") ?_ (by walk_at "m_mem"); intro _ _)
      with_reducible refine P.lt_int ?_
      with_reducible refine wpAny_truthy_bool ?_
      refine ite_dec (fun q2 => ?_) (fun q2 => ?_)
      · with_reducible refine wpAny_execs_cons ?_
        with_reducible refine wpAny_AugAssign_Name ?_
        refine r_locn (by with_reducible assumption) (by rfl) ?_
        refine Subscript_ ?_
        refine r_loc (by with_reducible assumption) (by rfl) ?_
        refine r_loc (by with_reducible assumption) (by rfl) ?_
        (refine x_item (by walk_at "m_has") (by walk_at "m_n") (by walk_at "m_n") (by walk_at "m_n") ?_; intro _)
        ((with_reducible refine x_iadd ?_); intro _ _)
        (refine r_store (by with_reducible assumption) ?_; intro _ _ _)
        with_reducible refine wpAny_execs_nil ?_
        with_reducible refine wpAny_execs_cons ?_
        refine wpAny_Expr_any ?_
        refine x_appendCall (by with_reducible assumption) (by rfl) ?_
        with_reducible refine wpAny_BinOp ?_
        refine r_loc (by with_reducible assumption) (by rfl) ?_
        (refine r_base (by with_reducible assumption) ?_; intro _)
        ((with_reducible refine x_mod (by walk_at "m_n") ?_); intro _ _)
        (refine x_append (by with_reducible assumption) (by walk_at "m_n") ?_; intro _ _)
        refine execs_asg ?_
        with_reducible refine wpAny_BinOp ?_
        refine r_loc (by with_reducible assumption) (by rfl) ?_
        (refine r_base (by with_reducible assumption) ?_; intro _)
        ((with_reducible refine x_div (by walk_at "m_n") (by walk_at "m_n") ?_); intro _ _)
        (refine r_store (by with_reducible assumption) ?_; intro _ _ _)
        with_reducible refine wpAny_execs_nil ?_
        refine turn_next (_, _, _) (by assumption) rfl (by walk_at "m_Sub") (by walk_at "m_sub") ?_
        exact hJ.step (ok_dg x) (ok_dg y) (by simp only [Int.toNat_natCast])
      · with_reducible refine wpAny_execs_nil ?_
        with_reducible refine wpAny_execs_cons ?_
        refine wpAny_Expr_any ?_
        refine x_appendCall (by with_reducible assumption) (by rfl) ?_
        with_reducible refine wpAny_BinOp ?_
        refine r_loc (by with_reducible assumption) (by rfl) ?_
        (refine r_base (by with_reducible assumption) ?_; intro _)
        ((with_reducible refine x_mod (by walk_at "m_n") ?_); intro _ _)
        (refine x_append (by with_reducible assumption) (by walk_at "m_n") ?_; intro _ _)
        refine execs_asg ?_
        with_reducible refine wpAny_BinOp ?_
        refine r_loc (by with_reducible assumption) (by rfl) ?_
        (refine r_base (by with_reducible assumption) ?_; intro _)
        ((with_reducible refine x_div (by walk_at "m_n") (by walk_at "m_n") ?_); intro _ _)
        (refine r_store (by with_reducible assumption) ?_; intro _ _ _)
        with_reducible refine wpAny_execs_nil ?_
        refine turn_next (_, _, _) (by assumption) rfl (by walk_at "m_Sub") (by walk_at "m_sub") ?_
        exact hJ.step (ok_dg x) (ok_dg y) (by rw [getD_ge (xs := dg y) (by walk_at "m_n")]; simp only [Int.toNat_natCast]; walk_at "m_n")
    · with_reducible refine wpAny_execs_nil ?_
      refine execs_ifC ?_
      refine r_loc (by with_reducible assumption) (by rfl) ?_
      (refine r_len (by with_reducible assumption) (by rfl) (by walk_at "m_has") (by walk_at "m_n") ?_ (by walk_at "m_mem"); intro _ _)
      with_reducible refine P.lt_int ?_
      with_reducible refine wpAny_truthy_bool ?_
      refine ite_dec (fun q2 => ?_) (fun q2 => ?_)
      · with_reducible refine wpAny_execs_cons ?_
        with_reducible refine wpAny_AugAssign_Name ?_
        refine r_locn (by with_reducible assumption) (by rfl) ?_
        refine Subscript_ ?_
        refine r_loc (by with_reducible assumption) (by rfl) ?_
        refine r_loc (by with_reducible assumption) (by rfl) ?_
        (refine x_item (by walk_at "m_has") (by walk_at "m_n") (by walk_at "m_n") (by walk_at "m_n") ?_; intro _)
        ((with_reducible refine x_iadd ?_); intro _ _)
        (refine r_store (by with_reducible assumption) ?_; intro _ _ _)
        with_reducible refine wpAny_execs_nil ?_
        with_reducible refine wpAny_execs_cons ?_
        refine wpAny_Expr_any ?_
        refine x_appendCall (by with_reducible assumption) (by rfl) ?_
        with_reducible refine wpAny_BinOp ?_
        refine r_loc (by with_reducible assumption) (by rfl) ?_
        (refine r_base (by with_reducible assumption) ?_; intro _)
        ((with_reducible refine x_mod (by walk_at "m_n") ?_); intro _ _)
        (refine x_append (by with_reducible assumption) (by walk_at "m_n") ?_; intro _ _)
        refine execs_asg ?_
        with_reducible refine wpAny_BinOp ?_
        refine r_loc (by with_reducible assumption) (by rfl) ?_
        (refine r_base (by with_reducible assumption) ?_; intro _)
        ((with_reducible refine x_div (by walk_at "m_n") (by walk_at "m_n") ?_); intro _ _)
        (refine r_store (by with_reducible assumption) ?_; intro _ _ _)
        with_reducible refine wpAny_execs_nil ?_
        refine turn_next (_, _, _) (by assumption) rfl (by walk_at "m_Sub") (by walk_at "m_sub") ?_
        exact hJ.step (ok_dg x) (ok_dg y) (by rw [getD_ge (xs := dg x) (by walk_at "m_n")]; simp only [Int.toNat_natCast]; walk_at "m_n")
      · exfalso; walk_at "m_n"
  · rintro ⟨tot, c, u⟩ h₂ t₂ hJ F₂
    dsimp only [List.nil_append, List.cons_append] at hJ F₂ ⊢
    have hl := hJ.len
    refine execs_ifC ?_
    refine r_loc (by with_reducible assumption) (by rfl) ?_
    ((with_reducible refine x_int ?_); intro _ _)
    with_reducible refine P.gt_int ?_
    with_reducible refine wpAny_truthy_bool ?_
    refine ite_dec (fun q1 => ?_) (fun q1 => ?_)
    · with_reducible refine wpAny_execs_cons ?_
      refine wpAny_Expr_any ?_
      refine x_appendCall (by with_reducible assumption) (by rfl) ?_
      refine r_loc (by with_reducible assumption) (by rfl) ?_
      (refine x_append (by with_reducible assumption) (by walk_at "m_n") ?_; intro _ _)
      with_reducible refine wpAny_execs_nil ?_
      with_reducible refine wpAny_execs_cons ?_
      with_reducible refine wpAny_Return_some ?_
      refine r_loc (by with_reducible assumption) (by rfl) ?_
      skip
      have e := hJ.fin1 q1
      rename_i F₃
      rw [e] at F₃
      exact k D _ _ (F.back F₃.unD (by walk_at "m_mem"))
    · with_reducible refine wpAny_execs_nil ?_
      with_reducible refine wpAny_execs_cons ?_
      with_reducible refine wpAny_Return_some ?_
      refine r_loc (by with_reducible assumption) (by rfl) ?_
      skip
      have e := hJ.fin0 q1
      rw [e] at F₂
      exact k D _ _ (F.back F₂.unD (by walk_at "m_mem"))
end
section
variable {mg mb : Str → Option Value} {prog : Program} {w : World} {A : Around} {E : Value → Shared → Prop} {b : Shared} {h₀ h : Heap} {L a a' f : Addr} {dl : Option (Addr × Kd)} {t : Nat}
  {m : List (Str × Value)} {led : List Ent} {Q : Value → Shared → Prop} {nm : Str} {ps : Arguments} {bd : List Stmt} {sc : Scope}

theorem sub_c {x y : Nat} (F : Fm (Wx mg mb) h₀ L dl h m led) (hd : defAt pw 5 = some (nm, ps, bd, sc)) (hf : FnRef h₀ f (nm, ps, bd, sc)) (hx : Is h a (.kI (dg x))) (hy : Is h a' (.kI (dg y)))
    (hnx : (dg x).length ≤ 5000) (hle : y ≤ x) (hA : Rm 2 A)
    (k : ∀ r h' t', Fm (Wx mg mb) h₀ L dl h' m ((r, .kP (dg (x - y)), true) :: led) → Q (.ref r) (St b h' t')) :
    wpAny (model prog w) A (call (.ref f) [.ref a, .ref a']) Q E (St b h t) := by
  cases hd
  refine r_enter F hf (hA.le (by walk_at "m_n")) [("a", .ref a), ("b", .ref a')] [(a, .kI (dg x), false), (a', .kI (dg y), false)] ⟨⟨hx, rfl⟩, ⟨hy, rfl⟩, trivial⟩ ?_
  intro L' h₁ t₁ code F₁
  have hh := hA.hd
  have hny := len_mono hle
  refine execs_ifC ?_
  (refine r_callL2 (by with_reducible assumption) (by rfl) (by rfl) (by rfl) (by rfl) ?_; intro _ _)
  skip
  refine ⟨Fm.keep (by with_reducible assumption), compare_c (by with_reducible assumption) (by rfl) (by assumption) (by walk_at "m_has") (by walk_at "m_has") (by walk_at "m_n") (by walk_at "m_n") hA.deeper ?_⟩
  intro u' h₂ t₂ F₂
  have hc : ¬ cmpI x y < 0 := by unfold cmpI; split <;> (try split) <;> omega
  ((with_reducible refine x_int ?_); intro _ _)
  with_reducible refine P.lt_int ?_
  with_reducible refine wpAny_truthy_bool ?_
  refine ite_dec (fun q1 => absurd q1 hc) (fun q1 => ?_)
  with_reducible refine wpAny_execs_nil ?_
  refine execs_asg ?_
  with_reducible refine List_ ?_
  with_reducible refine args_nil ?_
  skip
  refine x_newListD (by assumption) .nil (by decide) ?_
  intro D h₂ F₂
  (refine r_store (by with_reducible assumption) ?_; intro _ _ _)
  refine execs_asg ?_
  ((with_reducible refine x_int ?_); intro _ _)
  (refine r_store (by with_reducible assumption) ?_; intro _ _ _)
  with_reducible refine wpAny_execs_cons ?_
  refine wpAny_For ?_
  refine r_tcall bb_range (by with_reducible assumption) (by walk_at "m_mem") ?_
  refine args_cons ?_
  (refine r_len (by with_reducible assumption) (by rfl) (by walk_at "m_has") (by walk_at "m_n") ?_ (by walk_at "m_mem"); intro _ _)
  with_reducible refine args_nil ?_
  (refine x_range1 (by with_reducible assumption) ?_; intro _ _ _ _ _ _ _)
  refine r_up (dg x).length (by walk_at "m_n") (by assumption) (by walk_at "m_mem") (by walk_at "m_n") hh (σ := List Int × Int × Tok) (fun c => some (D, .kP c.1)) (fun c => [("rest", .ref D), ("borrow", .int c.2.1 c.2.2), ("a", .ref a), ("b", .ref a')]) (fun _ => []) [(a, .kI (dg x), false), (a', .kI (dg y), false)]
    (fun i c => SubJ (dg x) (dg y) c.1 c.2.1 i) ([], 0, _) rfl (by walk_at "m_Sub") (by walk_at "m_sub") (fun _ _ q => nomatch q) ⟨rfl, ok_nil, by simp, by simp, by simp [vl]⟩ ?_ ?_
  · rintro j ⟨rest, c, u⟩ u' h₂ t₂ o I E' hj hJ F₂
    dsimp only [List.nil_append, List.cons_append] at hJ F₂ ⊢
    have hl := hJ.len
    refine execs_asg ?_
    with_reducible refine wpAny_BinOp ?_
    refine Subscript_ ?_
    refine r_loc (by with_reducible assumption) (by rfl) ?_
    refine r_loc (by with_reducible assumption) (by rfl) ?_
    (refine x_item (by walk_at "m_has") (by walk_at "m_n") (by walk_at "m_n") (by walk_at "m_n") ?_; intro _)
    refine r_loc (by with_reducible assumption) (by rfl) ?_
    ((with_reducible refine x_sub ?_); intro _ _)
    (refine r_store (by with_reducible assumption) ?_; intro _ _ _)
    refine execs_ifC ?_
    refine r_loc (by with_reducible assumption) (by rfl) ?_
    (refine r_len (by with_reducible assumption) (by rfl) (by walk_at "m_has") (by walk_at "m_n") ?_ (by walk_at "m_mem"); intro _ _)
    with_reducible refine P.lt_int ?_
    with_reducible refine wpAny_truthy_bool ?_
    refine ite_dec (fun q1 => ?_) (fun q1 => ?_)
    · with_reducible refine wpAny_execs_cons ?_
      with_reducible refine wpAny_AugAssign_Name ?_
      refine r_locn (by with_reducible assumption) (by rfl) ?_
      refine Subscript_ ?_
      refine r_loc (by with_reducible assumption) (by rfl) ?_
      refine r_loc (by with_reducible assumption) (by rfl) ?_
      (refine x_item (by walk_at "m_has") (by walk_at "m_n") (by walk_at "m_n") (by walk_at "m_n") ?_; intro _)
      ((with_reducible refine x_isub ?_); intro _ _)
      (refine r_store (by with_reducible assumption) ?_; intro _ _ _)
      with_reducible refine wpAny_execs_nil ?_
      refine execs_asg ?_
      ((with_reducible refine x_int ?_); intro _ _)
      (refine r_store (by with_reducible assumption) ?_; intro _ _ _)
      refine execs_ifC ?_
      refine r_loc (by with_reducible assumption) (by rfl) ?_
      ((with_reducible refine x_int ?_); intro _ _)
      with_reducible refine P.lt_int ?_
      with_reducible refine wpAny_truthy_bool ?_
      refine ite_dec (fun q2 => ?_) (fun q2 => ?_)
      · with_reducible refine wpAny_execs_cons ?_
        with_reducible refine wpAny_AugAssign_Name ?_
        refine r_locn (by with_reducible assumption) (by rfl) ?_
        (refine r_base (by with_reducible assumption) ?_; intro _)
        ((with_reducible refine x_iadd ?_); intro _ _)
        (refine r_store (by with_reducible assumption) ?_; intro _ _ _)
        refine execs_asg ?_
        ((with_reducible refine x_int ?_); intro _ _)
        (refine r_store (by with_reducible assumption) ?_; intro _ _ _)
        with_reducible refine wpAny_execs_nil ?_
        with_reducible refine wpAny_execs_cons ?_
        refine wpAny_Expr_any ?_
        refine x_appendCall (by with_reducible assumption) (by rfl) ?_
        refine r_loc (by with_reducible assumption) (by rfl) ?_
        (refine x_append (by with_reducible assumption) (by walk_at "m_n") ?_; intro _ _)
        with_reducible refine wpAny_execs_nil ?_
        refine turn_next (_, _, _) (by assumption) rfl (by walk_at "m_Sub") (by walk_at "m_sub") ?_
        exact hJ.step (ok_dg x) (ok_dg y) rfl (.inl ⟨by simp only [Int.toNat_natCast] at q2; exact q2, by simp only [Int.toNat_natCast], rfl⟩)
      · with_reducible refine wpAny_execs_nil ?_
        with_reducible refine wpAny_execs_cons ?_
        refine wpAny_Expr_any ?_
        refine x_appendCall (by with_reducible assumption) (by rfl) ?_
        refine r_loc (by with_reducible assumption) (by rfl) ?_
        (refine x_append (by with_reducible assumption) (by walk_at "m_n") ?_; intro _ _)
        with_reducible refine wpAny_execs_nil ?_
        refine turn_next (_, _, _) (by assumption) rfl (by walk_at "m_Sub") (by walk_at "m_sub") ?_
        exact hJ.step (ok_dg x) (ok_dg y) rfl (.inr ⟨by simp only [Int.toNat_natCast] at q2; omega, by simp only [Int.toNat_natCast], rfl⟩)
    · with_reducible refine wpAny_execs_nil ?_
      refine execs_asg ?_
      ((with_reducible refine x_int ?_); intro _ _)
      (refine r_store (by with_reducible assumption) ?_; intro _ _ _)
      refine execs_ifC ?_
      refine r_loc (by with_reducible assumption) (by rfl) ?_
      ((with_reducible refine x_int ?_); intro _ _)
      with_reducible refine P.lt_int ?_
      with_reducible refine wpAny_truthy_bool ?_
      have z := getD_ge (xs := dg y) (i := j) (by walk_at "m_n")
      refine ite_dec (fun q2 => ?_) (fun q2 => ?_)
      · with_reducible refine wpAny_execs_cons ?_
        with_reducible refine wpAny_AugAssign_Name ?_
        refine r_locn (by with_reducible assumption) (by rfl) ?_
        (refine r_base (by with_reducible assumption) ?_; intro _)
        ((with_reducible refine x_iadd ?_); intro _ _)
        (refine r_store (by with_reducible assumption) ?_; intro _ _ _)
        refine execs_asg ?_
        ((with_reducible refine x_int ?_); intro _ _)
        (refine r_store (by with_reducible assumption) ?_; intro _ _ _)
        with_reducible refine wpAny_execs_nil ?_
        with_reducible refine wpAny_execs_cons ?_
        refine wpAny_Expr_any ?_
        refine x_appendCall (by with_reducible assumption) (by rfl) ?_
        refine r_loc (by with_reducible assumption) (by rfl) ?_
        (refine x_append (by with_reducible assumption) (by walk_at "m_n") ?_; intro _ _)
        with_reducible refine wpAny_execs_nil ?_
        refine turn_next (_, _, _) (by assumption) rfl (by walk_at "m_Sub") (by walk_at "m_sub") ?_
        exact hJ.step (ok_dg x) (ok_dg y) rfl (.inl ⟨by simp only [Int.toNat_natCast] at q2; omega, by simp only [Int.toNat_natCast]; omega, rfl⟩)
      · with_reducible refine wpAny_execs_nil ?_
        with_reducible refine wpAny_execs_cons ?_
        refine wpAny_Expr_any ?_
        refine x_appendCall (by with_reducible assumption) (by rfl) ?_
        refine r_loc (by with_reducible assumption) (by rfl) ?_
        (refine x_append (by with_reducible assumption) (by walk_at "m_n") ?_; intro _ _)
        with_reducible refine wpAny_execs_nil ?_
        refine turn_next (_, _, _) (by assumption) rfl (by walk_at "m_Sub") (by walk_at "m_sub") ?_
        exact hJ.step (ok_dg x) (ok_dg y) rfl (.inr ⟨by simp only [Int.toNat_natCast] at q2; omega, by simp only [Int.toNat_natCast]; omega, rfl⟩)
  · rintro ⟨rest, c, u⟩ h₂ t₂ hJ F₂
    dsimp only [List.nil_append, List.cons_append] at hJ F₂ ⊢
    have hl := hJ.len
    with_reducible refine wpAny_execs_cons ?_
    with_reducible refine wpAny_Return_some ?_
    (refine r_callL1 (by with_reducible assumption) (by rfl) (by rfl) (by rfl) ?_; intro _ _)
    skip
    refine ⟨Fm.keep (by with_reducible assumption), trimmed_c (by with_reducible assumption) (by rfl) (by assumption) (by walk_at "m_has") (by walk_at "m_n") hJ.ok hA.deeper ?_⟩
    intro r h₃ t₃ F₃
    rw [hJ.fin hle, Int.toNat_natCast] at F₃
    exact k r _ _ (F.back F₃ (by walk_at "m_mem"))

theorem mul_small_c {x d : Nat} {i : Int} {u : Tok} (F : Fm (Wx mg mb) h₀ L dl h m led) (hd : defAt pw 6 = some (nm, ps, bd, sc)) (hf : FnRef h₀ f (nm, ps, bd, sc)) (hx : Is h a (.kI (dg x))) (hi : i = (d : Int))
    (hnx : (dg x).length ≤ 5000) (hd1 : d < 10000) (hA : Rm 1 A)
    (k : ∀ r h' t', Fm (Wx mg mb) h₀ L dl h' m ((r, .kP (dg (x * d)), true) :: led) → Q (.ref r) (St b h' t')) :
    wpAny (model prog w) A (call (.ref f) [.ref a, .int i u]) Q E (St b h t) := by
  cases hd
  subst hi
  refine r_enter F hf hA [("a", .ref a), ("d", .int (d : Int) u)] [(a, .kI (dg x), false)] ⟨⟨hx, rfl⟩, trivial⟩ ?_
  intro L' h₁ t₁ code F₁
  have hh := hA.hd
  refine execs_ifC ?_
  refine r_loc (by with_reducible assumption) (by rfl) ?_
  ((with_reducible refine x_int ?_); intro _ _)
  with_reducible refine P.eq_int ?_
  with_reducible refine wpAny_truthy_bool ?_
  refine ite_beq (fun q1 => ?_) (fun q1 => ?_)
  · with_reducible refine wpAny_execs_cons ?_
    with_reducible refine wpAny_Return_some ?_
    with_reducible refine List_ ?_
    with_reducible refine args_nil ?_
    skip
    refine x_newListD (by assumption) .nil (by decide) ?_
    intro D h₂ F₂
    have e : ([] : List Int) = dg (x * d) := by rw [show d = 0 by omega, Nat.mul_zero, dg_zero]
    rw [e] at F₂
    exact k D _ _ (F.back F₂.unD (by walk_at "m_mem"))
  · with_reducible refine wpAny_execs_nil ?_
    refine execs_asg ?_
    with_reducible refine List_ ?_
    with_reducible refine args_nil ?_
    skip
    refine x_newListD (by assumption) .nil (by decide) ?_
    intro D h₂ F₂
    (refine r_store (by with_reducible assumption) ?_; intro _ _ _)
    refine execs_asg ?_
    ((with_reducible refine x_int ?_); intro _ _)
    (refine r_store (by with_reducible assumption) ?_; intro _ _ _)
    with_reducible refine wpAny_execs_cons ?_
    refine wpAny_For ?_
    refine r_loc (by with_reducible assumption) (by rfl) ?_
    refine r_list (by assumption) (by walk_at "m_mem") hh (σ := List Int × Int × Tok) (fun c => some (D, .kP c.1)) (fun c => [("product", .ref D), ("carry", .int c.2.1 c.2.2), ("d", .int (d : Int) u)]) (fun _ => []) []
      (fun i c => MsJ (dg x) c.1 d c.2.1 i) ([], 0, _) rfl (by walk_at "m_Sub") (by walk_at "m_sub") (fun _ _ q => nomatch q) ⟨rfl, ok_nil, by simp, by simp; omega, by simp [vl]⟩ ?_ ?_
    · rintro j ⟨pr, c, u⟩ u' h₂ t₂ o I oX E' hj hJ F₂
      dsimp only [List.nil_append, List.cons_append] at hJ F₂ ⊢
      have hl := hJ.len
      refine execs_asg ?_
      with_reducible refine wpAny_BinOp ?_
      with_reducible refine wpAny_BinOp ?_
      refine r_loc (by with_reducible assumption) (by rfl) ?_
      refine r_loc (by with_reducible assumption) (by rfl) ?_
      ((with_reducible refine x_mul (by first | exact IntMulOk.of_right (intBits_le_64 (by walk_at "m_n") (by walk_at "m_n")) | exact IntMulOk.of_left (intBits_le_64 (by walk_at "m_n") (by walk_at "m_n")) | exact mul_fits2 (by walk_at "m_n") (by walk_at "m_n") (by walk_at "m_n") (by walk_at "m_n")) ?_); intro _ _)
      refine r_loc (by with_reducible assumption) (by rfl) ?_
      ((with_reducible refine x_add ?_); intro _ _)
      (refine r_store (by with_reducible assumption) ?_; intro _ _ _)
      with_reducible refine wpAny_execs_cons ?_
      refine wpAny_Expr_any ?_
      refine x_appendCall (by with_reducible assumption) (by rfl) ?_
      with_reducible refine wpAny_BinOp ?_
      refine r_loc (by with_reducible assumption) (by rfl) ?_
      (refine r_base (by with_reducible assumption) ?_; intro _)
      ((with_reducible refine x_mod (by walk_at "m_n") ?_); intro _ _)
      (refine x_append (by with_reducible assumption) (by walk_at "m_n") ?_; intro _ _)
      refine execs_asg ?_
      with_reducible refine wpAny_BinOp ?_
      refine r_loc (by with_reducible assumption) (by rfl) ?_
      (refine r_base (by with_reducible assumption) ?_; intro _)
      ((with_reducible refine x_div (by walk_at "m_n") (by walk_at "m_n") ?_); intro _ _)
      (refine r_store (by with_reducible assumption) ?_; intro _ _ _)
      with_reducible refine wpAny_execs_nil ?_
      refine turn_next (_, _, _) (by assumption) rfl (by walk_at "m_Sub") (by walk_at "m_sub") ?_
      exact hJ.step (ok_dg x) (by walk_at "m_n") rfl
    · rintro ⟨pr, c, u⟩ h₂ t₂ hJ F₂
      dsimp only [List.nil_append, List.cons_append] at hJ F₂ ⊢
      have hl := hJ.len
      refine execs_ifC ?_
      refine r_loc (by with_reducible assumption) (by rfl) ?_
      ((with_reducible refine x_int ?_); intro _ _)
      with_reducible refine P.gt_int ?_
      with_reducible refine wpAny_truthy_bool ?_
      refine ite_dec (fun q1 => ?_) (fun q1 => ?_)
      · with_reducible refine wpAny_execs_cons ?_
        refine wpAny_Expr_any ?_
        refine x_appendCall (by with_reducible assumption) (by rfl) ?_
        refine r_loc (by with_reducible assumption) (by rfl) ?_
        (refine x_append (by with_reducible assumption) (by walk_at "m_n") ?_; intro _ _)
        with_reducible refine wpAny_execs_nil ?_
        with_reducible refine wpAny_execs_cons ?_
        with_reducible refine wpAny_Return_some ?_
        refine r_loc (by with_reducible assumption) (by rfl) ?_
        skip
        have e := hJ.fin1 hd1 q1
        rename_i F₃
        rw [e] at F₃
        exact k D _ _ (F.back F₃.unD (by walk_at "m_mem"))
      · with_reducible refine wpAny_execs_nil ?_
        with_reducible refine wpAny_execs_cons ?_
        with_reducible refine wpAny_Return_some ?_
        refine r_loc (by with_reducible assumption) (by rfl) ?_
        skip
        have e := hJ.fin0 q1
        rw [e] at F₂
        exact k D _ _ (F.back F₂.unD (by walk_at "m_mem"))

theorem shifted_c {x : Nat} {i : Int} {u : Tok} (F : Fm (Wx mg mb) h₀ L dl h m led) (hd : defAt pw 7 = some (nm, ps, bd, sc)) (hf : FnRef h₀ f (nm, ps, bd, sc)) (hx : Is h a (.kI (dg x))) (h0 : 0 ≤ i) (h1 : i < 1000)
    (hnx : (dg x).length ≤ 5000) (hA : Rm 1 A)
    (k : ∀ r h' t', Fm (Wx mg mb) h₀ L dl h' m ((r, .kP (dg (x * 10000 ^ i.toNat)), true) :: led) → Q (.ref r) (St b h' t')) :
    wpAny (model prog w) A (call (.ref f) [.ref a, .int i u]) Q E (St b h t) := by
  cases hd
  refine r_enter F hf hA [("a", .ref a), ("k", .int i u)] [(a, .kI (dg x), false)] ⟨⟨hx, rfl⟩, trivial⟩ ?_
  intro L' h₁ t₁ code F₁
  refine execs_ifC ?_
  (refine r_len (by with_reducible assumption) (by rfl) (by walk_at "m_has") (by walk_at "m_n") ?_ (by walk_at "m_mem"); intro _ _)
  ((with_reducible refine x_int ?_); intro _ _)
  with_reducible refine P.eq_int ?_
  with_reducible refine wpAny_truthy_bool ?_
  refine ite_beq (fun q1 => ?_) (fun q1 => ?_)
  · with_reducible refine wpAny_execs_cons ?_
    with_reducible refine wpAny_Return_some ?_
    with_reducible refine List_ ?_
    with_reducible refine args_nil ?_
    skip
    refine x_newListD (by assumption) .nil (by decide) ?_
    intro D h₂ F₂
    have e : ([] : List Int) = dg (x * 10000 ^ i.toNat) := by
      have hz : x = 0 := dg_nil.mp (List.length_eq_zero_iff.mp (by walk_at "m_n"))
      rw [hz, Nat.zero_mul, dg_zero]
    rw [e] at F₂
    exact k D _ _ (F.back F₂.unD (by walk_at "m_mem"))
  · with_reducible refine wpAny_execs_nil ?_
    with_reducible refine wpAny_execs_cons ?_
    with_reducible refine wpAny_Return_some ?_
    with_reducible refine wpAny_BinOp ?_
    with_reducible refine wpAny_BinOp ?_
    with_reducible refine List_ ?_
    refine args_cons ?_
    ((with_reducible refine x_int ?_); intro _ _)
    with_reducible refine args_nil ?_
    skip
    refine x_newList (by assumption) (by simp) ?_
    intro r₂ h₂ F₂
    refine r_loc (by with_reducible assumption) (by rfl) ?_
    refine x_rep (by assumption) (by walk_at "m_has") (by walk_at "m_n") (by walk_at "m_n") ?_
    intro r₃ h₃ F₃
    refine r_loc (by with_reducible assumption) (by rfl) ?_
    refine x_cat (by assumption) (by walk_at "m_has") (by walk_at "m_has") (by rw [List.length_replicate]; walk_at "m_n") ?_
    intro r₄ h₄ F₄
    rw [shift_dg (fun z => q1 (by rw [z, dg_zero]; rfl))] at F₄
    exact k r₄ _ _ (F.back F₄ (by walk_at "m_mem"))
end
section
variable {mg mb : Str → Option Value} {prog : Program} {w : World} {A : Around} {E : Value → Shared → Prop} {b : Shared} {h₀ h : Heap} {L a a' f : Addr} {dl : Option (Addr × Kd)} {t : Nat}
  {m : List (Str × Value)} {led : List Ent} {Q : Value → Shared → Prop} {nm : Str} {ps : Arguments} {bd : List Stmt} {sc : Scope}

theorem mul_school_c {x y : Nat} (F : Fm (Wx mg mb) h₀ L dl h m led) (hd : defAt pw 8 = some (nm, ps, bd, sc)) (hf : FnRef h₀ f (nm, ps, bd, sc)) (hx : Is h a (.kI (dg x))) (hy : Is h a' (.kI (dg y)))
    (hnx : (dg x).length ≤ 2000) (hny : (dg y).length ≤ 2000) (hA : Rm 2 A)
    (k : ∀ r h' t', Fm (Wx mg mb) h₀ L dl h' m ((r, .kP (dg (x * y)), true) :: led) → Q (.ref r) (St b h' t')) :
    wpAny (model prog w) A (call (.ref f) [.ref a, .ref a']) Q E (St b h t) := by
  cases hd
  refine r_enter F hf (hA.le (by walk_at "m_n")) [("a", .ref a), ("b", .ref a')] [(a, .kI (dg x), false), (a', .kI (dg y), false)] ⟨⟨hx, rfl⟩, ⟨hy, rfl⟩, trivial⟩ ?_
  intro L' h₁ t₁ code F₁
  have hh := hA.hd
  refine execs_asg ?_
  with_reducible refine wpAny_BinOp ?_
  with_reducible refine List_ ?_
  refine args_cons ?_
  ((with_reducible refine x_int ?_); intro _ _)
  with_reducible refine args_nil ?_
  skip
  refine x_newList (by assumption) (by simp) ?_
  intro r₂ h₂ F₂
  with_reducible refine wpAny_BinOp ?_
  (refine r_len (by with_reducible assumption) (by rfl) (by walk_at "m_has") (by walk_at "m_n") ?_ (by walk_at "m_mem"); intro _ _)
  (refine r_len (by with_reducible assumption) (by rfl) (by walk_at "m_has") (by walk_at "m_n") ?_ (by walk_at "m_mem"); intro _ _)
  ((with_reducible refine x_add ?_); intro _ _)
  refine x_repD (by assumption) (by walk_at "m_has") (by walk_at "m_n") (by walk_at "m_n") ?_
  intro D h₃ F₃
  rw [show (((dg x).length : Int) + ((dg y).length : Int)).toNat = (dg x).length + (dg y).length by walk_at "m_n"] at F₃
  replace F₃ := F₃.alsoD Is.pl_ints
  (refine r_store (by with_reducible assumption) ?_; intro _ _ _)
  with_reducible refine wpAny_execs_cons ?_
  refine wpAny_For ?_
  refine r_tcall bb_range (by with_reducible assumption) (by walk_at "m_mem") ?_
  refine args_cons ?_
  (refine r_len (by with_reducible assumption) (by rfl) (by walk_at "m_has") (by walk_at "m_n") ?_ (by walk_at "m_mem"); intro _ _)
  with_reducible refine args_nil ?_
  (refine x_range1 (by with_reducible assumption) ?_; intro _ _ _ _ _ _ _)
  rename_i r₁ h₄ t₄ u₁ u₂ u₃ F₄
  refine r_up (dg x).length (by walk_at "m_n") F₄ (by walk_at "m_mem") (by walk_at "m_n") hh (σ := List Int) (fun c => some (D, .kI c)) (fun c => [("row", .ref D), ("a", .ref a), ("b", .ref a')]) (fun _ => []) [(a, .kI (dg x), false), (a', .kI (dg y), false)]
    (fun i c => RowJ (dg x) (dg y) c i) _ rfl (by walk_at "m_Sub") (by walk_at "m_sub") (fun _ _ q => nomatch q) (RowJ.start _ _) ?_ ?_
  · rintro i row u' h₅ t₅ o I E' hi hJ F₅
    dsimp only [List.nil_append, List.cons_append] at hJ F₅ ⊢
    have hxi := ok_getD (ok_dg x) (i : Int).toNat
    refine execs_asg ?_
    ((with_reducible refine x_int ?_); intro _ _)
    (refine r_store (by with_reducible assumption) ?_; intro _ _ _)
    with_reducible refine wpAny_execs_cons ?_
    refine wpAny_For ?_
    refine r_tcall bb_range (by with_reducible assumption) (by walk_at "m_mem") ?_
    refine args_cons ?_
    (refine r_len (by with_reducible assumption) (by rfl) (by walk_at "m_has") (by walk_at "m_n") ?_ (by walk_at "m_mem"); intro _ _)
    with_reducible refine args_nil ?_
    (refine x_range1 (by with_reducible assumption) ?_; intro _ _ _ _ _ _ _)
    refine r_up (dg y).length (by walk_at "m_n") (by assumption) (by walk_at "m_mem") (by walk_at "m_n") hh (σ := List Int × Int × Tok) (fun c => some (D, .kI c.1)) (fun c => [("row", .ref D), ("carry", .int c.2.1 c.2.2), ("i", .int (i : Int) u'), ("a", .ref a), ("b", .ref a')]) (fun _ => [])
      [(I, .kR o, true), (r₁, _, true), (a, .kI (dg x), false), (a', .kI (dg y), false)]
      (fun j c => RowK (dg x) (dg y) c.1 c.2.1 i j) (row, 0, _) rfl (by walk_at "m_Sub") (by walk_at "m_sub") (fun _ _ q => nomatch q) hJ.inner ?_ ?_
    · rintro j ⟨row, c, uc⟩ u'' h₅ t₅ o I E' hj hJ F₅
      dsimp only [List.nil_append, List.cons_append] at hJ F₅ ⊢
      have hl := hJ.len
      have hyj := ok_getD (ok_dg y) (j : Int).toNat
      refine execs_asg ?_
      with_reducible refine wpAny_BinOp ?_
      with_reducible refine wpAny_BinOp ?_
      refine Subscript_ ?_
      refine r_loc (by with_reducible assumption) (by rfl) ?_
      with_reducible refine wpAny_BinOp ?_
      refine r_loc (by with_reducible assumption) (by rfl) ?_
      refine r_loc (by with_reducible assumption) (by rfl) ?_
      ((with_reducible refine x_add ?_); intro _ _)
      (refine x_item (by walk_at "m_has") (by walk_at "m_n") (by walk_at "m_n") (by walk_at "m_n") ?_; intro _)
      with_reducible refine wpAny_BinOp ?_
      refine Subscript_ ?_
      refine r_loc (by with_reducible assumption) (by rfl) ?_
      refine r_loc (by with_reducible assumption) (by rfl) ?_
      (refine x_item (by walk_at "m_has") (by walk_at "m_n") (by walk_at "m_n") (by walk_at "m_n") ?_; intro _)
      refine Subscript_ ?_
      refine r_loc (by with_reducible assumption) (by rfl) ?_
      refine r_loc (by with_reducible assumption) (by rfl) ?_
      (refine x_item (by walk_at "m_has") (by walk_at "m_n") (by walk_at "m_n") (by walk_at "m_n") ?_; intro _)
      ((with_reducible refine x_mul (by first | exact IntMulOk.of_right (intBits_le_64 (by walk_at "m_n") (by walk_at "m_n")) | exact IntMulOk.of_left (intBits_le_64 (by walk_at "m_n") (by walk_at "m_n")) | exact mul_fits2 (by walk_at "m_n") (by walk_at "m_n") (by walk_at "m_n") (by walk_at "m_n")) ?_); intro _ _)
      ((with_reducible refine x_add ?_); intro _ _)
      refine r_loc (by with_reducible assumption) (by rfl) ?_
      ((with_reducible refine x_add ?_); intro _ _)
      (refine r_store (by with_reducible assumption) ?_; intro _ _ _)
      with_reducible refine wpAny_execs_cons ?_
      refine wpAny_Assign_Subscript ?_
      with_reducible refine wpAny_BinOp ?_
      refine r_loc (by with_reducible assumption) (by rfl) ?_
      (refine r_base (by with_reducible assumption) ?_; intro _)
      ((with_reducible refine x_mod (by walk_at "m_n") ?_); intro _ _)
      refine r_loc (by with_reducible assumption) (by rfl) ?_
      with_reducible refine wpAny_BinOp ?_
      refine r_loc (by with_reducible assumption) (by rfl) ?_
      refine r_loc (by with_reducible assumption) (by rfl) ?_
      ((with_reducible refine x_add ?_); intro _ _)
      (refine x_setItem (by with_reducible assumption) (by walk_at "m_has") (by walk_at "m_n") (by walk_at "m_n") (by walk_at "m_n") ?_; intro _ _)
      refine execs_asg ?_
      with_reducible refine wpAny_BinOp ?_
      refine r_loc (by with_reducible assumption) (by rfl) ?_
      (refine r_base (by with_reducible assumption) ?_; intro _)
      ((with_reducible refine x_div (by walk_at "m_n") (by walk_at "m_n") ?_); intro _ _)
      (refine r_store (by with_reducible assumption) ?_; intro _ _ _)
      with_reducible refine wpAny_execs_nil ?_
      refine turn_next (_, _, _) (by assumption) rfl (by walk_at "m_Sub") (by walk_at "m_sub") ?_
      skip
      rw [show ((i : Int) + (j : Int)).toNat = i + j by walk_at "m_n"]
      simp only [Int.toNat_natCast]
      exact hJ.step (ok_dg x) (ok_dg y) hi hj rfl
    · rintro ⟨row, c, uc⟩ h₅ t₅ hJ F₅
      dsimp only [List.nil_append, List.cons_append] at hJ F₅ ⊢
      have hl := hJ.len
      with_reducible refine wpAny_execs_cons ?_
      refine wpAny_Assign_Subscript ?_
      refine r_loc (by with_reducible assumption) (by rfl) ?_
      refine r_loc (by with_reducible assumption) (by rfl) ?_
      with_reducible refine wpAny_BinOp ?_
      refine r_loc (by with_reducible assumption) (by rfl) ?_
      (refine r_len (by with_reducible assumption) (by rfl) (by walk_at "m_has") (by walk_at "m_n") ?_ (by walk_at "m_mem"); intro _ _)
      ((with_reducible refine x_add ?_); intro _ _)
      (refine x_setItem (by with_reducible assumption) (by walk_at "m_has") (by walk_at "m_n") (by walk_at "m_n") (by walk_at "m_n") ?_; intro _ _)
      with_reducible refine wpAny_execs_nil ?_
      refine turn_next _ (by assumption) rfl (by walk_at "m_Sub") (by walk_at "m_sub") ?_
      try dsimp only
      rw [show ((i : Int) + ((dg y).length : Int)).toNat = i + (dg y).length by walk_at "m_n"]
      exact hJ.outer hi
  · rintro row h₅ t₅ hJ F₅
    dsimp only [List.nil_append, List.cons_append] at hJ F₅ ⊢
    have hl := hJ.len
    with_reducible refine wpAny_execs_cons ?_
    with_reducible refine wpAny_Return_some ?_
    (refine r_callL1 (by with_reducible assumption) (by rfl) (by rfl) (by rfl) ?_; intro _ _)
    skip
    refine ⟨Fm.keep (by with_reducible assumption), trimmed_c (by with_reducible assumption) (by rfl) (by assumption) (by walk_at "m_has") (by walk_at "m_n") hJ.ok hA.deeper ?_⟩
    intro r h₆ t₆ F₆
    rw [hJ.fin, Int.toNat_natCast] at F₆
    exact k r _ _ (F.back F₆ (by walk_at "m_mem"))
end
section
variable {mg mb : Str → Option Value} {prog : Program} {w : World} {A : Around} {E : Value → Shared → Prop} {b : Shared} {h₀ h : Heap} {L a a' f : Addr} {dl : Option (Addr × Kd)} {t : Nat}
  {m : List (Str × Value)} {led : List Ent} {Q : Value → Shared → Prop} {nm : Str} {ps : Arguments} {bd : List Stmt} {sc : Scope}

theorem divmod_small_c {x d : Nat} {i : Int} {u : Tok} (F : Fm (Wx mg mb) h₀ L dl h m led) (hd : defAt pw 9 = some (nm, ps, bd, sc)) (hf : FnRef h₀ f (nm, ps, bd, sc)) (hx : Is h a (.kI (dg x))) (hi : i = (d : Int)) (hd0 : 0 < d) (hd1 : d < 10000)
    (hnx : (dg x).length ≤ 5000) (hA : Rm 2 A)
    (k : ∀ r q u h' t', Fm (Wx mg mb) h₀ L dl h' m ((r, .kT [.ref q, .int ((x % d : Nat) : Int) u], true) :: (q, .kP (dg (x / d)), true) :: led) → Q (.ref r) (St b h' t')) :
    wpAny (model prog w) A (call (.ref f) [.ref a, .int i u]) Q E (St b h t) := by
  cases hd
  subst hi
  refine r_enter F hf (hA.le (by walk_at "m_n")) [("a", .ref a), ("d", .int (d : Int) u)] [(a, .kI (dg x), false)] ⟨⟨hx, rfl⟩, trivial⟩ ?_
  intro L' h₁ t₁ code F₁
  have hh := hA.hd
  refine execs_asg ?_
  with_reducible refine wpAny_BinOp ?_
  with_reducible refine List_ ?_
  refine args_cons ?_
  ((with_reducible refine x_int ?_); intro _ _)
  with_reducible refine args_nil ?_
  skip
  refine x_newList (by assumption) (by simp) ?_
  intro r₂ h₂ F₂
  (refine r_len (by with_reducible assumption) (by rfl) (by walk_at "m_has") (by walk_at "m_n") ?_ (by walk_at "m_mem"); intro _ _)
  refine x_repD (by assumption) (by walk_at "m_has") (by walk_at "m_n") (by walk_at "m_n") ?_
  intro D h₃ F₃
  rw [Int.toNat_natCast] at F₃
  replace F₃ := F₃.alsoD Is.pl_ints
  (refine r_store (by with_reducible assumption) ?_; intro _ _ _)
  refine execs_asg ?_
  ((with_reducible refine x_int ?_); intro _ _)
  (refine r_store (by with_reducible assumption) ?_; intro _ _ _)
  with_reducible refine wpAny_execs_cons ?_
  refine wpAny_For ?_
  refine r_tcall bb_range (by with_reducible assumption) (by walk_at "m_mem") ?_
  refine args_cons ?_
  with_reducible refine wpAny_BinOp ?_
  (refine r_len (by with_reducible assumption) (by rfl) (by walk_at "m_has") (by walk_at "m_n") ?_ (by walk_at "m_mem"); intro _ _)
  ((with_reducible refine x_int ?_); intro _ _)
  ((with_reducible refine x_sub ?_); intro _ _)
  refine args_cons ?_
  with_reducible refine wpAny_UnaryOp ?_
  ((with_reducible refine x_int ?_); intro _ _)
  ((with_reducible refine x_neg ?_); intro _ _)
  refine args_cons ?_
  with_reducible refine wpAny_UnaryOp ?_
  ((with_reducible refine x_int ?_); intro _ _)
  ((with_reducible refine x_neg ?_); intro _ _)
  with_reducible refine args_nil ?_
  (refine x_range3 (by with_reducible assumption) ?_; intro _ _ _ _)
  refine r_down (dg x).length (by walk_at "m_n") (by assumption) (by walk_at "m_mem") (by walk_at "m_n") hh (σ := List Int × Int × Tok) (fun c => some (D, .kI c.1)) (fun c => [("q", .ref D), ("r", .int c.2.1 c.2.2), ("a", .ref a), ("d", .int (d : Int) u)]) (fun _ => []) [(a, .kI (dg x), false)]
    (fun p c => DivJ (dg x) c.1 d c.2.1 p) (_, 0, _) rfl (by walk_at "m_Sub") (by walk_at "m_sub") (fun _ _ q => nomatch q) (DivJ.start _ (by walk_at "m_n")) ?_ ?_
  · rintro j ⟨q, r, ur⟩ u' h₅ t₅ o I E' hj hJ F₅
    dsimp only [List.nil_append, List.cons_append] at hJ F₅ ⊢
    have hl := hJ.len
    refine execs_asg ?_
    with_reducible refine wpAny_BinOp ?_
    with_reducible refine wpAny_BinOp ?_
    refine r_loc (by with_reducible assumption) (by rfl) ?_
    (refine r_base (by with_reducible assumption) ?_; intro _)
    ((with_reducible refine x_mul (by first | exact IntMulOk.of_right (intBits_le_64 (by walk_at "m_n") (by walk_at "m_n")) | exact IntMulOk.of_left (intBits_le_64 (by walk_at "m_n") (by walk_at "m_n")) | exact mul_fits2 (by walk_at "m_n") (by walk_at "m_n") (by walk_at "m_n") (by walk_at "m_n")) ?_); intro _ _)
    refine Subscript_ ?_
    refine r_loc (by with_reducible assumption) (by rfl) ?_
    refine r_loc (by with_reducible assumption) (by rfl) ?_
    (refine x_item (by walk_at "m_has") (by walk_at "m_n") (by walk_at "m_n") (by walk_at "m_n") ?_; intro _)
    ((with_reducible refine x_add ?_); intro _ _)
    (refine r_store (by with_reducible assumption) ?_; intro _ _ _)
    with_reducible refine wpAny_execs_cons ?_
    refine wpAny_Assign_Subscript ?_
    with_reducible refine wpAny_BinOp ?_
    refine r_loc (by with_reducible assumption) (by rfl) ?_
    refine r_loc (by with_reducible assumption) (by rfl) ?_
    ((with_reducible refine x_div (by walk_at "m_n") (by walk_at "m_n") ?_); intro _ _)
    refine r_loc (by with_reducible assumption) (by rfl) ?_
    refine r_loc (by with_reducible assumption) (by rfl) ?_
    (refine x_setItem (by with_reducible assumption) (by walk_at "m_has") (by walk_at "m_n") (by walk_at "m_n") (by walk_at "m_n") ?_; intro _ _)
    refine execs_asg ?_
    with_reducible refine wpAny_BinOp ?_
    refine r_loc (by with_reducible assumption) (by rfl) ?_
    refine r_loc (by with_reducible assumption) (by rfl) ?_
    ((with_reducible refine x_mod (by walk_at "m_n") ?_); intro _ _)
    (refine r_store (by with_reducible assumption) ?_; intro _ _ _)
    with_reducible refine wpAny_execs_nil ?_
    refine turn_next (_, _, _) (by assumption) rfl (by walk_at "m_Sub") (by walk_at "m_sub") ?_
    skip
    simp only [Int.toNat_natCast]
    exact hJ.step (ok_dg x) hj rfl
  · rintro ⟨q, r, ur⟩ h₅ t₅ hJ F₅
    dsimp only [List.nil_append, List.cons_append] at hJ F₅ ⊢
    have hl := hJ.len
    with_reducible refine wpAny_execs_cons ?_
    with_reducible refine wpAny_Return_some ?_
    with_reducible refine Tuple_ ?_
    refine args_cons ?_
    (refine r_callL1 (by with_reducible assumption) (by rfl) (by rfl) (by rfl) ?_; intro _ _)
    skip
    refine ⟨Fm.keep (by with_reducible assumption), trimmed_c (by with_reducible assumption) (by rfl) (by assumption) (by walk_at "m_has") (by walk_at "m_n") hJ.ok hA.deeper ?_⟩
    intro r₆ h₆ t₆ F₆
    rw [hJ.fin.1, Int.toNat_natCast] at F₆
    refine args_loc (by with_reducible assumption) (by rfl) ?_
    with_reducible refine args_nil ?_
    (refine x_newTuple (by with_reducible assumption) (by simp) ?_; intro _ _ _)
    rename_i r₇ h₇ F₇
    rw [hJ.fin.2] at F₇
    exact k r₇ r₆ _ _ _ (F.back2 F₇ (by walk_at "m_mem") (by walk_at "m_mem"))
end
section
variable {mg mb : Str → Option Value} {prog : Program} {w : World} {A : Around} {E : Value → Shared → Prop} {b : Shared} {h₀ h : Heap} {L a a' f : Addr} {dl : Option (Addr × Kd)} {t : Nat}
  {m : List (Str × Value)} {led : List Ent} {Q : Value → Shared → Prop} {nm : Str} {ps : Arguments} {bd : List Stmt} {sc : Scope}

theorem trial_digit_c {x y : Nat} (F : Fm (Wx mg mb) h₀ L dl h m led) (hd : defAt pw 10 = some (nm, ps, bd, sc)) (hf : FnRef h₀ f (nm, ps, bd, sc)) (hx : Is h a (.kI (dg x))) (hy : Is h a' (.kI (dg y)))
    (hlt : x < 10000 * y) (hny : (dg y).length ≤ 4000) (hA : Rm 2 A)
    (k : ∀ u h' t', Fm (Wx mg mb) h₀ L dl h' m led → Q (.int ((x / y : Nat) : Int) u) (St b h' t')) :
    wpAny (model prog w) A (call (.ref f) [.ref a, .ref a']) Q E (St b h t) := by
  cases hd
  refine r_enter F hf (hA.le (by walk_at "m_n")) [("rem", .ref a), ("b", .ref a')] [(a, .kI (dg x), false), (a', .kI (dg y), false)] ⟨⟨hx, rfl⟩, ⟨hy, rfl⟩, trivial⟩ ?_
  intro L' h₁ t₁ code F₁
  have hnx := len_mul hlt
  refine execs_asg ?_
  ((with_reducible refine x_int ?_); intro _ _)
  (refine r_store (by with_reducible assumption) ?_; intro _ _ _)
  refine execs_asg ?_
  with_reducible refine wpAny_BinOp ?_
  (refine r_base (by with_reducible assumption) ?_; intro _)
  ((with_reducible refine x_int ?_); intro _ _)
  ((with_reducible refine x_sub ?_); intro _ _)
  (refine r_store (by with_reducible assumption) ?_; intro _ _ _)
  with_reducible refine wpAny_execs_cons ?_
  refine r_while (σ := (Nat × Tok) × Nat × Tok) (fun _ => none) (fun c => [("low", .int (c.1.1 : Int) c.1.2), ("high", .int (c.2.1 : Int) c.2.2), ("rem", .ref a), ("b", .ref a')]) (fun _ => [(a, .kI (dg x), false), (a', .kI (dg y), false)])
    (fun c => c.1.1 ≤ c.2.1 ∧ c.2.1 ≤ 9999 ∧ y * c.1.1 ≤ x ∧ x < y * (c.2.1 + 1)) (fun c => c.2.1 - c.1.1) ((0, _), 9999, _) (Fm.wk (by assumption) (by walk_at "m_Sub") (by walk_at "m_sub")) ⟨Nat.zero_le _, Nat.le_refl _, Nat.zero_le _, by rw [Nat.mul_comm]; exact hlt⟩ ?_
  rintro ⟨⟨lo, ul⟩, hi, uh⟩ h₂ t₂ E' ⟨c1, c2, c3, c4⟩ F₂
  dsimp only at c1 c2 c3 c4 F₂ ⊢
  refine wpAny_isTrue_Compare1 ?_
  refine r_loc (by with_reducible assumption) (by rfl) ?_
  refine r_loc (by with_reducible assumption) (by rfl) ?_
  with_reducible refine P.lt_int ?_
  with_reducible refine wpAny_truthy_bool ?_
  refine ite_dec (fun q1 => ?_) (fun q1 => ?_)
  · have hlh : lo < hi := Int.ofNat_lt.mp q1
    have hm1 : lo < (lo + hi + 1) / 2 ∧ (lo + hi + 1) / 2 ≤ hi := mid_ok hlh
    have em : ((lo : Int) + (hi : Int) + 1) / 2 = (((lo + hi + 1) / 2 : Nat) : Int) := rfl
    generalize (lo + hi + 1) / 2 = mid at *
    have hm : mid < 10000 := Nat.lt_of_le_of_lt hm1.2 (Nat.lt_succ_of_le c2)
    have hy0 : 0 < y := by rcases Nat.eq_zero_or_pos y with z | z; · subst z; rw [Nat.mul_zero] at hlt; exact absurd hlt (Nat.not_lt_zero _)
                           · exact z
    have hlm : (dg (y * mid)).length ≤ (dg y).length + 1 := len_mul (by rw [Nat.mul_comm]; exact Nat.mul_lt_mul_of_pos_right hm hy0)
    refine execs_asg ?_
    with_reducible refine wpAny_BinOp ?_
    with_reducible refine wpAny_BinOp ?_
    with_reducible refine wpAny_BinOp ?_
    refine r_loc (by with_reducible assumption) (by rfl) ?_
    refine r_loc (by with_reducible assumption) (by rfl) ?_
    ((with_reducible refine x_add ?_); intro _ _)
    ((with_reducible refine x_int ?_); intro _ _)
    ((with_reducible refine x_add ?_); intro _ _)
    ((with_reducible refine x_int ?_); intro _ _)
    ((with_reducible refine x_div (by walk_at "m_n") (by walk_at "m_n") ?_); intro _ _)
    (refine r_store (by with_reducible assumption) ?_; intro _ _ _)
    refine execs_ifC ?_
    (refine r_callN (by with_reducible assumption) (by rfl) (by rfl) ?_; intro _ _)
    refine args_cons ?_
    (refine r_callL2 (by with_reducible assumption) (by rfl) (by rfl) (by rfl) (by rfl) ?_; intro _ _)
    skip
    refine ⟨Fm.keep (by with_reducible assumption), mul_small_c (by with_reducible assumption) (by rfl) (by assumption) (by walk_at "m_has") em (by walk_at "m_n") hm hA.deeper ?_⟩
    intro r₃ h₃ t₃ F₃
    refine args_loc (by with_reducible assumption) (by rfl) ?_
    with_reducible refine args_nil ?_
    skip
    refine ⟨Fm.keep (by with_reducible assumption), compare_c (by with_reducible assumption) (by rfl) (by assumption) (by walk_at "m_has") (by walk_at "m_has") (Nat.le_trans hlm (Nat.le_trans (Nat.succ_le_succ hny) (by decide))) (Nat.le_trans hnx (Nat.le_trans (Nat.succ_le_succ hny) (by decide))) hA.deeper ?_⟩
    intro u₄ h₄ t₄ F₄
    ((with_reducible refine x_int ?_); intro _ _)
    with_reducible refine P.le_int ?_
    with_reducible refine wpAny_truthy_bool ?_
    refine ite_dec (fun q2 => ?_) (fun q2 => ?_)
    · refine execs_asg ?_
      refine r_loc (by with_reducible assumption) (by rfl) ?_
      (refine r_store (by with_reducible assumption) ?_; intro _ _ _)
      with_reducible refine wpAny_execs_nil ?_
      with_reducible refine wpAny_execs_nil ?_
      have hle : y * mid ≤ x := by unfold cmpI at q2; split at q2 <;> (try split at q2) <;> omega
      refine turn_next ((mid, _), hi, _) (by assumption) rfl ⟨by rw [← em]; rfl, by walk_at "m_Sub"⟩ (by walk_at "m_sub") ⟨⟨hm1.2, c2, hle, c4⟩, ?_⟩
      exact Nat.sub_lt_sub_left hlh hm1.1
    · refine execs_asg ?_
      with_reducible refine wpAny_BinOp ?_
      refine r_loc (by with_reducible assumption) (by rfl) ?_
      ((with_reducible refine x_int ?_); intro _ _)
      ((with_reducible refine x_sub ?_); intro _ _)
      (refine r_store (by with_reducible assumption) ?_; intro _ _ _)
      with_reducible refine wpAny_execs_nil ?_
      with_reducible refine wpAny_execs_nil ?_
      have hgt : x < y * mid := by unfold cmpI at q2; split at q2 <;> (try split at q2) <;> omega
      obtain ⟨md, rfl⟩ : ∃ md, mid = md + 1 := ⟨mid - 1, (Nat.sub_add_cancel (Nat.lt_of_le_of_lt (Nat.zero_le lo) hm1.1)).symm⟩
      refine turn_next ((lo, _), md, _) (by assumption) rfl ⟨rfl, by show some _ = some _; rw [em, show (((md + 1 : Nat) : Int) - 1) = (md : Int) from Int.add_sub_cancel (md : Int) 1], by walk_at "m_Sub"⟩ (by walk_at "m_sub") ⟨⟨Nat.le_of_lt_succ hm1.1, Nat.le_trans (Nat.le_of_succ_le hm1.2) c2, c3, hgt⟩, ?_⟩
      exact Nat.sub_lt_sub_right (Nat.le_of_lt_succ hm1.1) hm1.2
  · with_reducible refine wpAny_execs_cons ?_
    with_reducible refine wpAny_Return_some ?_
    refine r_loc (by with_reducible assumption) (by rfl) ?_
    skip
    have e : lo = x / y := by
      have hh : lo = hi := Nat.le_antisymm c1 (Nat.not_lt.mp fun q => q1 (Int.ofNat_lt.mpr q))
      subst hh
      exact (Nat.div_eq_of_lt_le (k := lo) (by rw [Nat.mul_comm]; exact c3) (by rw [Nat.mul_comm]; exact c4)).symm
    subst e
    exact k _ _ _ (F.back0 F₂)
end
section
variable {mg mb : Str → Option Value} {prog : Program} {w : World} {A : Around} {E : Value → Shared → Prop} {b : Shared} {h₀ h : Heap} {L a a' f : Addr} {dl : Option (Addr × Kd)} {t : Nat}
  {m : List (Str × Value)} {led : List Ent} {Q : Value → Shared → Prop} {nm : Str} {ps : Arguments} {bd : List Stmt} {sc : Scope}

theorem divmod_long_c {x y : Nat} (F : Fm (Wx mg mb) h₀ L dl h m led) (hd : defAt pw 11 = some (nm, ps, bd, sc)) (hf : FnRef h₀ f (nm, ps, bd, sc)) (hx : Is h a (.kI (dg x))) (hy : Is h a' (.kI (dg y)))
    (hy0 : 0 < y) (hnx : (dg x).length ≤ 3000) (hny : (dg y).length ≤ 3000) (hA : Rm 3 A)
    (k : ∀ r q q' h' t', Fm (Wx mg mb) h₀ L dl h' m ((r, .kT [.ref q, .ref q'], true) :: (q, .kP (dg (x / y)), true) :: (q', .kP (dg (x % y)), true) :: led) → Q (.ref r) (St b h' t')) :
    wpAny (model prog w) A (call (.ref f) [.ref a, .ref a']) Q E (St b h t) := by
  cases hd
  refine r_enter F hf (hA.le (by walk_at "m_n")) [("a", .ref a), ("b", .ref a')] [(a, .kI (dg x), false), (a', .kI (dg y), false)] ⟨⟨hx, rfl⟩, ⟨hy, rfl⟩, trivial⟩ ?_
  intro L' h₁ t₁ code F₁
  have hh := hA.hd
  have hly : (dg y).length ≠ 0 := fun z => dg_ne (by walk_at "m_n") (List.length_eq_zero_iff.mp z)
  refine execs_ifC ?_
  (refine r_len (by with_reducible assumption) (by rfl) (by walk_at "m_has") (by walk_at "m_n") ?_ (by walk_at "m_mem"); intro _ _)
  ((with_reducible refine x_int ?_); intro _ _)
  with_reducible refine P.eq_int ?_
  with_reducible refine wpAny_truthy_bool ?_
  refine ite_beq (fun q1 => absurd (by walk_at "m_n") hly) (fun q1 => ?_)
  with_reducible refine wpAny_execs_nil ?_
  refine execs_asg ?_
  with_reducible refine wpAny_BinOp ?_
  with_reducible refine List_ ?_
  refine args_cons ?_
  ((with_reducible refine x_int ?_); intro _ _)
  with_reducible refine args_nil ?_
  skip
  refine x_newList (by assumption) (by simp) ?_
  intro r₂ h₂ F₂
  (refine r_len (by with_reducible assumption) (by rfl) (by walk_at "m_has") (by walk_at "m_n") ?_ (by walk_at "m_mem"); intro _ _)
  refine x_repD (by assumption) (by walk_at "m_has") (by walk_at "m_n") (by walk_at "m_n") ?_
  intro D h₃ F₃
  rw [Int.toNat_natCast] at F₃
  replace F₃ := F₃.alsoD Is.pl_ints
  (refine r_store (by with_reducible assumption) ?_; intro _ _ _)
  refine execs_asg ?_
  with_reducible refine List_ ?_
  with_reducible refine args_nil ?_
  skip
  refine x_newList (by assumption) (by simp) ?_
  intro r₄ h₄ F₄
  replace F₄ := F₄.also (.head _) (K' := .kP (dg 0)) (fun _ i => by rw [dg_zero]; exact Is.ex_pl i .nil)
  (refine r_store (by with_reducible assumption) ?_; intro _ _ _)
  with_reducible refine wpAny_execs_cons ?_
  refine wpAny_For ?_
  refine r_tcall bb_range (by with_reducible assumption) (by walk_at "m_mem") ?_
  refine args_cons ?_
  with_reducible refine wpAny_BinOp ?_
  (refine r_len (by with_reducible assumption) (by rfl) (by walk_at "m_has") (by walk_at "m_n") ?_ (by walk_at "m_mem"); intro _ _)
  ((with_reducible refine x_int ?_); intro _ _)
  ((with_reducible refine x_sub ?_); intro _ _)
  refine args_cons ?_
  with_reducible refine wpAny_UnaryOp ?_
  ((with_reducible refine x_int ?_); intro _ _)
  ((with_reducible refine x_neg ?_); intro _ _)
  refine args_cons ?_
  with_reducible refine wpAny_UnaryOp ?_
  ((with_reducible refine x_int ?_); intro _ _)
  ((with_reducible refine x_neg ?_); intro _ _)
  with_reducible refine args_nil ?_
  (refine x_range3 (by with_reducible assumption) ?_; intro _ _ _ _)
  refine r_down (dg x).length (by walk_at "m_n") (by assumption) (by walk_at "m_mem") (by walk_at "m_n") hh (σ := List Int × Nat × Addr) (fun c => some (D, .kI c.1)) (fun c => [("q", .ref D), ("r", .ref c.2.2), ("a", .ref a), ("b", .ref a')]) (fun c => [(c.2.2, .kP (dg c.2.1), true)]) [(a, .kI (dg x), false), (a', .kI (dg y), false)]
    (fun p c => DivJ (dg x) c.1 y c.2.1 p) (_, 0, r₄) rfl (by walk_at "m_Sub") (by walk_at "m_sub") (fun c q hq => by rw [List.mem_singleton.mp hq]; rfl) (DivJ.start _ (by walk_at "m_n")) ?_ ?_
  · rintro j ⟨q, R, ra⟩ u' h₅ t₅ o I E' hj hJ F₅
    dsimp only [List.nil_append, List.cons_append] at hJ F₅ ⊢
    have hl := hJ.len
    have hxj := ok_getD (ok_dg x) j
    have hR := hJ.r1
    refine execs_asg ?_
    (refine r_callN (by with_reducible assumption) (by rfl) (by rfl) ?_; intro _ _)
    refine args_cons ?_
    with_reducible refine wpAny_BinOp ?_
    with_reducible refine List_ ?_
    refine args_cons ?_
    refine Subscript_ ?_
    refine r_loc (by with_reducible assumption) (by rfl) ?_
    refine r_loc (by with_reducible assumption) (by rfl) ?_
    (refine x_item (by walk_at "m_has") (by walk_at "m_n") (by walk_at "m_n") (by walk_at "m_n") ?_; intro _)
    with_reducible refine args_nil ?_
    skip
    refine x_newList (by assumption) (by simp) ?_
    intro r₆ h₆ F₆
    replace F₆ := F₆.also (.head _) (K' := .kP [(dg x).getD j 0]) (fun _ i => Is.ex_pl i (.cons _ _ .nil))
    have hnR : (dg R).length ≤ (dg y).length := len_mono (by walk_at "m_n")
    refine r_loc (by with_reducible assumption) (by rfl) ?_
    refine x_cat (by assumption) (by walk_at "m_has") (by walk_at "m_has") (by simp only [List.length_cons, List.length_nil]; walk_at "m_n") ?_
    intro r₇ h₇ F₇
    with_reducible refine args_nil ?_
    skip
    have ok7 : Ok ([(dg x).getD j 0] ++ dg R) := ok_append.mpr ⟨ok_cons.mpr ⟨hxj, ok_nil⟩, ok_dg R⟩
    refine ⟨Fm.keep (by with_reducible assumption), trimmed_c (by with_reducible assumption) (by rfl) (by assumption) (by walk_at "m_has") (by simp only [List.length_append, List.length_cons, List.length_nil]; walk_at "m_n") ok7 (hA.deeper.le (by walk_at "m_n")) ?_⟩
    intro r₈ h₈ t₈ F₈
    obtain ⟨R', eR⟩ : ∃ R' : Nat, (R' : Int) = R * 10000 + (dg x).getD j 0 := ⟨(R * 10000 + (dg x).getD j 0).toNat, by omega⟩
    rw [show (vl ([(dg x).getD j 0] ++ dg R)).toNat = R' by rw [List.cons_append, List.nil_append, vl, vl_dg]; omega] at F₈
    have hlt : R' < 10000 * y := by walk_at "m_n"
    have hn' := len_mul hlt
    (refine r_store (by with_reducible assumption) ?_; intro _ _ _)
    refine execs_asg ?_
    (refine r_callL2 (by with_reducible assumption) (by rfl) (by rfl) (by rfl) (by rfl) ?_; intro _ _)
    skip
    refine ⟨Fm.keep (by with_reducible assumption), trial_digit_c (by with_reducible assumption) (by rfl) (by assumption) (by walk_at "m_has") (by walk_at "m_has") hlt (by walk_at "m_n") (hA.deeper.le (by walk_at "m_n")) ?_⟩
    intro u₉ h₉ t₉ F₉
    have hq : R' / y < 10000 := Nat.div_lt_of_lt_mul (by rw [Nat.mul_comm]; exact hlt)
    have hmq : y * (R' / y) ≤ R' := Nat.mul_div_le R' y
    (refine r_store (by with_reducible assumption) ?_; intro _ _ _)
    with_reducible refine wpAny_execs_cons ?_
    refine wpAny_Assign_Subscript ?_
    refine r_loc (by with_reducible assumption) (by rfl) ?_
    refine r_loc (by with_reducible assumption) (by rfl) ?_
    refine r_loc (by with_reducible assumption) (by rfl) ?_
    (refine x_setItem (by with_reducible assumption) (by walk_at "m_has") (by walk_at "m_n") (by walk_at "m_n") (by walk_at "m_n") ?_; intro _ _)
    refine execs_asg ?_
    (refine r_callN (by with_reducible assumption) (by rfl) (by rfl) ?_; intro _ _)
    refine args_loc (by with_reducible assumption) (by rfl) ?_
    refine args_cons ?_
    (refine r_callL2 (by with_reducible assumption) (by rfl) (by rfl) (by rfl) (by rfl) ?_; intro _ _)
    skip
    refine ⟨Fm.keep (by with_reducible assumption), mul_small_c (by with_reducible assumption) (by rfl) (by assumption) (by walk_at "m_has") rfl (by walk_at "m_n") hq (hA.deeper.le (by walk_at "m_n")) ?_⟩
    intro r₁₀ h₁₀ t₁₀ F₁₀
    with_reducible refine args_nil ?_
    skip
    refine ⟨Fm.keep (by with_reducible assumption), sub_c (by with_reducible assumption) (by rfl) (by assumption) (by walk_at "m_has") (by walk_at "m_has") (by walk_at "m_n") hmq (hA.deeper.le (by walk_at "m_n")) ?_⟩
    intro r₁₁ h₁₁ t₁₁ F₁₁
    rw [show R' - y * (R' / y) = R' % y by have := Nat.div_add_mod R' y; omega] at F₁₁
    (refine r_store (by with_reducible assumption) ?_; intro _ _ _)
    with_reducible refine wpAny_execs_nil ?_
    refine turn_next (_, R' % y, r₁₁) (by assumption) rfl (by walk_at "m_Sub") (by walk_at "m_sub") ?_
    skip
    simp only [Int.toNat_natCast]
    have st := hJ.step (ok_dg x) hj rfl
    rw [← eR] at st
    exact st
  · rintro ⟨q, R, ra⟩ h₅ t₅ hJ F₅
    dsimp only [List.nil_append, List.cons_append] at hJ F₅ ⊢
    have hl := hJ.len
    with_reducible refine wpAny_execs_cons ?_
    with_reducible refine wpAny_Return_some ?_
    with_reducible refine Tuple_ ?_
    refine args_cons ?_
    (refine r_callL1 (by with_reducible assumption) (by rfl) (by rfl) (by rfl) ?_; intro _ _)
    skip
    refine ⟨Fm.keep (by with_reducible assumption), trimmed_c (by with_reducible assumption) (by rfl) (by assumption) (by walk_at "m_has") (by walk_at "m_n") hJ.ok (hA.deeper.le (by walk_at "m_n")) ?_⟩
    intro r₆ h₆ t₆ F₆
    rw [hJ.fin.1, Int.toNat_natCast] at F₆
    refine args_loc (by with_reducible assumption) (by rfl) ?_
    with_reducible refine args_nil ?_
    (refine x_newTuple (by with_reducible assumption) (by simp) ?_; intro _ _ _)
    rename_i r₇ h₇ F₇
    have e := hJ.fin.2
    obtain rfl : R = x % y := by walk_at "m_n"
    exact k r₇ r₆ ra _ _ (F.back3 F₇ (by walk_at "m_mem") (by walk_at "m_mem") (by walk_at "m_mem"))
end
section
variable {mg mb : Str → Option Value} {prog : Program} {w : World} {A : Around} {E : Value → Shared → Prop} {b : Shared} {h₀ h : Heap} {L a a' f : Addr} {dl : Option (Addr × Kd)} {t : Nat}
  {m : List (Str × Value)} {led : List Ent} {Q : Value → Shared → Prop} {nm : Str} {ps : Arguments} {bd : List Stmt} {sc : Scope}

theorem isqrt_nat_c {x r : Nat} (F : Fm (Wx mg mb) h₀ L dl h m led) (hd : defAt pw 14 = some (nm, ps, bd, sc)) (hf : FnRef h₀ f (nm, ps, bd, sc)) (hx : Is h a (.kI (dg x))) (hr : IsRoot x r)
    (hnx : (dg x).length ≤ 1000) (hA : Rm 4 A)
    (k : ∀ p h' t', Fm (Wx mg mb) h₀ L dl h' m ((p, .kP (dg r), true) :: led) → Q (.ref p) (St b h' t')) :
    wpAny (model prog w) A (call (.ref f) [.ref a]) Q E (St b h t) := by
  cases hd
  refine r_enter F hf (hA.le (by walk_at "m_n")) [("a", .ref a)] [(a, .kI (dg x), false)] ⟨⟨hx, rfl⟩, trivial⟩ ?_
  intro L' h₁ t₁ code F₁
  refine execs_ifC ?_
  (refine r_len (by with_reducible assumption) (by rfl) (by walk_at "m_has") (by walk_at "m_n") ?_ (by walk_at "m_mem"); intro _ _)
  ((with_reducible refine x_int ?_); intro _ _)
  with_reducible refine P.eq_int ?_
  with_reducible refine wpAny_truthy_bool ?_
  refine ite_beq (fun q1 => ?_) (fun q1 => ?_)
  · with_reducible refine wpAny_execs_cons ?_
    with_reducible refine wpAny_Return_some ?_
    with_reducible refine List_ ?_
    with_reducible refine args_nil ?_
    skip
    refine x_newListD (by assumption) .nil (by decide) ?_
    intro D h₂ F₂
    have hz : x = 0 := dg_nil.mp (List.length_eq_zero_iff.mp (by walk_at "m_n"))
    have hrz : r = 0 := root_unique hr (by subst hz; exact ⟨by decide, by decide⟩)
    rw [show ([] : List Int) = dg r by rw [hrz, dg_zero]] at F₂
    exact k D _ _ (F.back F₂.unD (by walk_at "m_mem"))
  · with_reducible refine wpAny_execs_nil ?_
    refine execs_asg ?_
    (refine r_callN (by with_reducible assumption) (by rfl) (by rfl) ?_; intro _ _)
    refine args_cons ?_
    with_reducible refine List_ ?_
    refine args_cons ?_
    ((with_reducible refine x_int ?_); intro _ _)
    with_reducible refine args_nil ?_
    skip
    refine x_newList (by assumption) (by simp) ?_
    intro r₂ h₂ F₂
    have h1 : ([1] : List Int) = dg 1 := by rw [dg_pos (by decide)]; simp [dg_zero]
    have hl1 : (dg 1).length = 1 := by rw [← h1]; rfl
    replace F₂ := F₂.also (.head _) (K' := .kP (dg 1)) (fun _ i => by rw [← h1]; exact Is.ex_pl i (.cons _ _ .nil))
    refine args_cons ?_
    with_reducible refine wpAny_BinOp ?_
    with_reducible refine wpAny_BinOp ?_
    (refine r_len (by with_reducible assumption) (by rfl) (by walk_at "m_has") (by walk_at "m_n") ?_ (by walk_at "m_mem"); intro _ _)
    ((with_reducible refine x_int ?_); intro _ _)
    ((with_reducible refine x_add ?_); intro _ _)
    ((with_reducible refine x_int ?_); intro _ _)
    ((with_reducible refine x_div (by walk_at "m_n") (by walk_at "m_n") ?_); intro _ _)
    with_reducible refine args_nil ?_
    skip
    refine ⟨Fm.keep (by with_reducible assumption), shifted_c (by with_reducible assumption) (by rfl) (by assumption) (by walk_at "m_has") (by walk_at "m_n") (by walk_at "m_n") (by walk_at "m_n") (hA.deeper.le (by walk_at "m_n")) ?_⟩
    intro ra h₃ t₃ F₃
    obtain ⟨X₀, hX₀⟩ : ∃ X₀ : Nat, X₀ = 1 * 10000 ^ ((((dg x).length : Int) + 1) / 2).toNat := ⟨_, rfl⟩
    rw [← hX₀] at F₃
    have hx0 : 0 < x := by
      rcases Nat.eq_zero_or_pos x with z | z
      · rw [z, dg_zero] at q1; exact absurd rfl q1
      · exact z
    have hr0 : 0 < r := by
      rcases Nat.eq_zero_or_pos r with z | z
      · have := hr.2; rw [z] at this; walk_at "m_n"
      · exact z
    have hsq : x < X₀ * X₀ := by
      have h1 := small_of_len (m := x) (Nat.le_refl _)
      have h2 : 10000 ^ (dg x).length ≤ X₀ * X₀ := by
        rw [hX₀, Nat.one_mul, ← Nat.pow_add]
        exact Nat.pow_le_pow_right (by decide) (by walk_at "m_n")
      omega
    have hrX := root_le_sq hr hsq
    have hlX : (dg X₀).length ≤ 1001 := by
      have := len_prod 1 (10000 ^ ((((dg x).length : Int) + 1) / 2).toNat)
      rw [← hX₀] at this
      have h3 : (dg (10000 ^ ((((dg x).length : Int) + 1) / 2).toNat)).length ≤ ((((dg x).length : Int) + 1) / 2).toNat + 1 := by
        refine dg_len_le ?_
        rw [Int.natCast_pow]
        have := pw_pos ((((dg x).length : Int) + 1) / 2).toNat
        rw [pw_succ]
        show (10000 : Int) ^ _ < _
        generalize (10000 : Int) ^ ((((dg x).length : Int) + 1) / 2).toNat = p at *
        omega
      omega
    have bound : ∀ X : Nat, X ≤ X₀ → (dg X).length ≤ 1001 ∧ (dg (x / X)).length ≤ 1000 ∧ (dg (X + x / X)).length ≤ 1002 := fun X hX => by
      have b1 := len_mono hX
      have b2 := len_mono (Nat.div_le_self x X)
      have b3 := len_add X (x / X)
      omega
    obtain ⟨b1, b2, b3⟩ := bound X₀ (Nat.le_refl _)
    (refine r_store (by with_reducible assumption) ?_; intro _ _ _)
    refine execs_asg ?_
    refine Subscript_ ?_
    (refine r_callN (by with_reducible assumption) (by rfl) (by rfl) ?_; intro _ _)
    refine args_cons ?_
    (refine r_callN (by with_reducible assumption) (by rfl) (by rfl) ?_; intro _ _)
    refine args_loc (by with_reducible assumption) (by rfl) ?_
    refine args_cons ?_
    refine Subscript_ ?_
    (refine r_callL2 (by with_reducible assumption) (by rfl) (by rfl) (by rfl) (by rfl) ?_; intro _ _)
    skip
    refine ⟨Fm.keep (by with_reducible assumption), divmod_long_c (by with_reducible assumption) (by rfl) (by assumption) (by walk_at "m_has") (by walk_at "m_has") (by walk_at "m_n") (by walk_at "m_n") (by walk_at "m_n") hA.deeper ?_⟩
    intro r₃ q₃ q₃' h₃ t₃ F₃
    ((with_reducible refine x_int ?_); intro _ _)
    refine x_itemW (by walk_at "m_has") (by rfl) (by rfl) (by decide) (by decide) ?_
    with_reducible refine args_nil ?_
    skip
    refine ⟨Fm.keep (by with_reducible assumption), add_c (by with_reducible assumption) (by rfl) (by assumption) (by walk_at "m_has") (by walk_at "m_has") (by walk_at "m_n") (by walk_at "m_n") (hA.deeper.le (by walk_at "m_n")) ?_⟩
    intro r₄ h₄ t₄ F₄
    refine args_cons ?_
    ((with_reducible refine x_int ?_); intro _ _)
    with_reducible refine args_nil ?_
    skip
    refine ⟨Fm.keep (by with_reducible assumption), divmod_small_c (d := 2) (by with_reducible assumption) (by rfl) (by assumption) (by walk_at "m_has") rfl (by decide) (by decide) (by walk_at "m_n") (hA.deeper.le (by walk_at "m_n")) ?_⟩
    intro r₅ q₅ u₅ h₅ t₅ F₅
    ((with_reducible refine x_int ?_); intro _ _)
    refine x_itemW (by walk_at "m_has") (by rfl) (by rfl) (by decide) (by decide) ?_
    (refine r_store (by with_reducible assumption) ?_; intro _ _ _)
    with_reducible refine wpAny_execs_cons ?_
    refine r_while (σ := Nat × Addr × Addr) (fun _ => none) (fun c => [("root", .ref c.2.1), ("better", .ref c.2.2), ("a", .ref a)]) (fun c => [(c.2.1, .kP (dg c.1), true), (c.2.2, .kP (dg ((c.1 + x / c.1) / 2)), true), (a, .kI (dg x), false)])
      (fun c => r ≤ c.1 ∧ c.1 ≤ X₀) (fun c => c.1) (X₀, ra, q₅) (Fm.wk (by assumption) (by walk_at "m_Sub") (by walk_at "m_sub")) ⟨by dsimp only; omega, by dsimp only; omega⟩ ?_
    rintro ⟨X, ra, ba⟩ h₆ t₆ E' ⟨c0, c1⟩ F₆
    dsimp only at c0 c1 F₆ ⊢
    obtain ⟨b1, b2, b3⟩ := bound X c1
    have hge := newton_ge hr (show 0 < X by walk_at "m_n")
    have b4 : (dg ((X + x / X) / 2)).length ≤ 1002 := Nat.le_trans (len_mono (Nat.div_le_self _ 2)) b3
    refine wpAny_isTrue_Compare1 ?_
    (refine r_callL2 (by with_reducible assumption) (by rfl) (by rfl) (by rfl) (by rfl) ?_; intro _ _)
    skip
    refine ⟨Fm.keep (by with_reducible assumption), compare_c (by with_reducible assumption) (by rfl) (by assumption) (by walk_at "m_has") (by walk_at "m_has") (by walk_at "m_n") (by walk_at "m_n") (hA.deeper.le (by walk_at "m_n")) ?_⟩
    intro u₇ h₇ t₇ F₇
    ((with_reducible refine x_int ?_); intro _ _)
    with_reducible refine P.lt_int ?_
    with_reducible refine wpAny_truthy_bool ?_
    refine ite_dec (fun q2 => ?_) (fun q2 => ?_)
    · have hlt : (X + x / X) / 2 < X := by unfold cmpI at q2; split at q2 <;> (try split at q2) <;> omega
      obtain ⟨Y, hY⟩ : ∃ Y, Y = (X + x / X) / 2 := ⟨_, rfl⟩
      rw [← hY] at F₇ hge hlt
      obtain ⟨b1, b2, b3⟩ := bound Y (by walk_at "m_n")
      refine execs_asg ?_
      refine r_loc (by with_reducible assumption) (by rfl) ?_
      (refine r_store (by with_reducible assumption) ?_; intro _ _ _)
      refine execs_asg ?_
      refine Subscript_ ?_
      (refine r_callN (by with_reducible assumption) (by rfl) (by rfl) ?_; intro _ _)
      refine args_cons ?_
      (refine r_callN (by with_reducible assumption) (by rfl) (by rfl) ?_; intro _ _)
      refine args_loc (by with_reducible assumption) (by rfl) ?_
      refine args_cons ?_
      refine Subscript_ ?_
      (refine r_callL2 (by with_reducible assumption) (by rfl) (by rfl) (by rfl) (by rfl) ?_; intro _ _)
      skip
      refine ⟨Fm.keep (by with_reducible assumption), divmod_long_c (by with_reducible assumption) (by rfl) (by assumption) (by walk_at "m_has") (by walk_at "m_has") (by walk_at "m_n") (by walk_at "m_n") (by walk_at "m_n") hA.deeper ?_⟩
      intro r₃ q₃ q₃' h₃ t₃ F₃
      ((with_reducible refine x_int ?_); intro _ _)
      refine x_itemW (by walk_at "m_has") (by rfl) (by rfl) (by decide) (by decide) ?_
      with_reducible refine args_nil ?_
      skip
      refine ⟨Fm.keep (by with_reducible assumption), add_c (by with_reducible assumption) (by rfl) (by assumption) (by walk_at "m_has") (by walk_at "m_has") (by walk_at "m_n") (by walk_at "m_n") (hA.deeper.le (by walk_at "m_n")) ?_⟩
      intro r₄ h₄ t₄ F₄
      refine args_cons ?_
      ((with_reducible refine x_int ?_); intro _ _)
      with_reducible refine args_nil ?_
      skip
      refine ⟨Fm.keep (by with_reducible assumption), divmod_small_c (d := 2) (by with_reducible assumption) (by rfl) (by assumption) (by walk_at "m_has") rfl (by decide) (by decide) (by walk_at "m_n") (hA.deeper.le (by walk_at "m_n")) ?_⟩
      intro r₅ q₅ u₅ h₅ t₅ F₅
      ((with_reducible refine x_int ?_); intro _ _)
      refine x_itemW (by walk_at "m_has") (by rfl) (by rfl) (by decide) (by decide) ?_
      (refine r_store (by with_reducible assumption) ?_; intro _ _ _)
      with_reducible refine wpAny_execs_nil ?_
      refine turn_next (Y, ba, q₅) (by assumption) rfl (by walk_at "m_Sub") (by walk_at "m_sub") ⟨⟨by dsimp only; omega, by dsimp only; omega⟩, by dsimp only; omega⟩
    · have hge2 : X ≤ (X + x / X) / 2 := by unfold cmpI at q2; split at q2 <;> (try split at q2) <;> omega
      obtain rfl := newton_stop hr c0 hge2
      with_reducible refine wpAny_execs_cons ?_
      with_reducible refine wpAny_Return_some ?_
      refine r_loc (by with_reducible assumption) (by rfl) ?_
      skip
      exact k ra _ _ (F.back F₇ (by walk_at "m_mem"))
end
section
variable {mg mb : Str → Option Value} {prog : Program} {w : World} {A : Around} {E : Value → Shared → Prop} {b : Shared} {h₀ h : Heap} {L a a' f : Addr} {dl : Option (Addr × Kd)} {t : Nat}
  {m : List (Str × Value)} {led : List Ent} {Q : Value → Shared → Prop} {nm : Str} {ps : Arguments} {bd : List Stmt} {sc : Scope}

theorem sub_r {x y : Nat} {base : Heap} {l : List Env} (F : Fm (Wx mg mb) h₀ L dl h m led) (hd : defAt pw 5 = some (nm, ps, bd, sc)) (hf : FnRef h₀ f (nm, ps, bd, sc)) (hx : Is h a (.kI (dg x))) (hy : Is h a' (.kI (dg y)))
    (hny : (dg y).length ≤ 5000) (hlt : x < y) (hA : Rm 2 A) (hAf : A.frames = some l) (hb : base.StaysIn h) (hfun : h.FunFrames base l)
    (k : ∀ e a0 h' t', Heap.FlyingW base l e (.type "ValueError") a0 h' → h.UpToSlots h' → E (.ref e) (St b h' t')) :
    wpAny (model prog w) A (call (.ref f) [.ref a, .ref a']) Q E (St b h t) := by
  cases hd
  refine r_enterE F hf (hA.le (by walk_at "m_n")) [("a", .ref a), ("b", .ref a')] [(a, .kI (dg x), false), (a', .kI (dg y), false)] ⟨⟨hx, rfl⟩, ⟨hy, rfl⟩, trivial⟩ ?_
  intro L' h₁ t₁ code F₁
  have hh := hA.hd
  have hnx := len_mono (Nat.le_of_lt hlt)
  refine execs_ifC ?_
  (refine r_callL2 (by with_reducible assumption) (by rfl) (by rfl) (by rfl) (by rfl) ?_; intro _ _)
  skip
  refine ⟨Fm.keep (by with_reducible assumption), compare_c (by with_reducible assumption) (by rfl) (by assumption) (by walk_at "m_has") (by walk_at "m_has") (by walk_at "m_n") (by walk_at "m_n") hA.deeper ?_⟩
  intro u' h₂ t₂ F₂
  have hc : cmpI x y < 0 := by unfold cmpI; rw [if_pos hlt]; decide
  ((with_reducible refine x_int ?_); intro _ _)
  with_reducible refine P.lt_int ?_
  with_reducible refine wpAny_truthy_bool ?_
  refine ite_dec (fun q1 => ?_) (fun q1 => absurd hc q1)
  with_reducible refine wpAny_execs_cons ?_
  exact x_raise PySem.F.excCall_ValueError PySem.F.excRaise_ValueError Boot.«ValueError» F₂ (by walk_at "m_mem") hh hAf hb hfun k

theorem divmod_long_r {x : Nat} {base : Heap} {l : List Env} (F : Fm (Wx mg mb) h₀ L dl h m led) (hd : defAt pw 11 = some (nm, ps, bd, sc)) (hf : FnRef h₀ f (nm, ps, bd, sc)) (hx : Is h a (.kI (dg x))) (hy : Is h a' (.kI (dg 0)))
    (hA : Rm 2 A) (hAf : A.frames = some l) (hb : base.StaysIn h) (hfun : h.FunFrames base l)
    (k : ∀ e a0 h' t', Heap.FlyingW base l e (.type "ZeroDivisionError") a0 h' → h.UpToSlots h' → E (.ref e) (St b h' t')) :
    wpAny (model prog w) A (call (.ref f) [.ref a, .ref a']) Q E (St b h t) := by
  cases hd
  refine r_enterE F hf (hA.le (by walk_at "m_n")) [("a", .ref a), ("b", .ref a')] [(a, .kI (dg x), false), (a', .kI (dg 0), false)] ⟨⟨hx, rfl⟩, ⟨hy, rfl⟩, trivial⟩ ?_
  intro L' h₁ t₁ code F₁
  have hh := hA.hd
  have hl0 : (dg 0).length = 0 := by rw [dg_zero]; rfl
  refine execs_ifC ?_
  (refine r_len (by with_reducible assumption) (by rfl) (by walk_at "m_has") (by walk_at "m_n") ?_ (by walk_at "m_mem"); intro _ _)
  ((with_reducible refine x_int ?_); intro _ _)
  with_reducible refine P.eq_int ?_
  with_reducible refine wpAny_truthy_bool ?_
  refine ite_beq (fun q1 => ?_) (fun q1 => absurd (by walk_at "m_n") q1)
  with_reducible refine wpAny_execs_cons ?_
  exact x_raise PySem.F.excCall_ZeroDivisionError PySem.F.excRaise_ZeroDivisionError Boot.«ZeroDivisionError» (by assumption) (by walk_at "m_mem") hh hAf hb hfun k

variable {outer : List Env} {cn : Str} {cs : Scope} {ca : Addr} {ccd : Value}
theorem law_take_c {x y : Nat} {K K' : Kd} {n n' : Bool} (F : Fm (Wx mg mb) h₀ L none h m led) (S : Stk A outer led) (hd : defAt pw 28 = some (nm, ps, bd, sc)) (hf : FnRef h₀ f (nm, ps, bd, sc))
    (hx : (a, K, n) ∈ led) (hK : ∀ h, Is h a K → Is h a (.kI (dg x))) (hy : (a', K', n') ∈ led) (hK' : ∀ h, Is h a' K' → Is h a' (.kI (dg y)))
    (hnx : (dg x).length ≤ 3000) (hny : (dg y).length ≤ 3000) (hck : cs.kind = .function) (hA : Rm 4 (A.deeper (envOf cn cs L ca ccd)))
    (k1 : ∀ r h' t', y ≤ x → Fm (Wx mg mb) h₀ L none h' m ((r, .kP (dg (x - y)), true) :: led) → Q (.ref r) (St b h' t'))
    (k2 : ∀ u h' t', x < y → Fm (Wx mg mb) h₀ L none h' m led → Q (.str "refused" u) (St b h' t')) :
    wpAny (model prog w) (A.deeper (envOf cn cs L ca ccd)) (call (.ref f) [.ref a, .ref a']) Q E (St b h t) := by
  cases hd
  refine r_enterH F S hf (hA.le (by walk_at "m_n")) [("a", .ref a), ("b", .ref a')] ?_ hck
  intro L' h₁ t₁ code d F₁ S₁ hm₁
  replace F₁ := (F₁.also (.tail _ hx) hK).also (.tail _ (.tail _ hy)) hK'
  replace S₁ := S₁.sub (led' := (a', .kI (dg y), n') :: (a, .kI (dg x), n) :: (L, .kD d, true) :: led) (fun _ q => .tail _ (.tail _ q))
  with_reducible refine wpAny_execs_cons ?_
  refine wpAny_Try_except ?_
  refine execs_asg ?_
  (refine r_callL2 (by with_reducible assumption) (by rfl) (by rfl) (by rfl) (by rfl) ?_; intro _ _)
  skip
  by_cases hle : y ≤ x
  · refine ⟨Fm.keep (by with_reducible assumption), sub_c (by with_reducible assumption) (by rfl) (by assumption) (by walk_at "m_has") (by walk_at "m_has") (by walk_at "m_n") hle (hA.deeper.le (by walk_at "m_n")) ?_⟩
    intro r h₃ t₃ F₃
    (refine r_store (by with_reducible assumption) ?_; intro _ _ _)
    with_reducible refine wpAny_execs_nil ?_
    with_reducible refine wpAny_execs_nil ?_
    with_reducible refine wpAny_execs_cons ?_
    with_reducible refine wpAny_Return_some ?_
    refine r_loc (by with_reducible assumption) (by rfl) ?_
    skip
    rename_i F₄
    exact k1 r _ _ hle (F.backH hm₁ F₄ [(r, .kP (dg (x - y)), true)] (by walk_at "m_mem") (fun _ q => .tail _ (.tail _ (.tail _ (.tail _ q)))) (by walk_at "m_sub") rfl)
  · refine ⟨Fm.keep (by with_reducible assumption), sub_r (by with_reducible assumption) (by rfl) (by assumption) (by walk_at "m_has") (by walk_at "m_has") (by walk_at "m_n") (by walk_at "m_n") (hA.deeper.le (by walk_at "m_n")) (Around.frames_deeper S₁.fr) (apart_stays _ L' (envOf cn cs L ca ccd :: outer)) (apart_fun (by with_reducible assumption) S₁ rfl) ?_⟩
    intro e a0 h₄ t₄ hfl us
    refine r_caught PySem.F.isExc_ValueError PySem.F.notTuple_ValueError (by rw [isSubtype_type]; kernel_rfl) Boot.«ValueError» (by with_reducible assumption) S₁ hfl us (by walk_at "m_mem") ?_
    intro h₅ F₅
    refine execs_asg ?_
    ((with_reducible refine x_str ?_); intro _ _)
    (refine r_store (by with_reducible assumption) ?_; intro _ _ _)
    with_reducible refine wpAny_execs_nil ?_
    with_reducible refine wpAny_execs_cons ?_
    with_reducible refine wpAny_Return_some ?_
    refine r_loc (by with_reducible assumption) (by rfl) ?_
    skip
    rename_i F₆
    exact k2 _ _ _ (by walk_at "m_n") (F.backH hm₁ F₆ [] (by walk_at "m_mem") (fun _ q => .tail _ (.tail _ (.tail _ q))) (by walk_at "m_sub") rfl)

theorem law_divide_c {x y : Nat} {K K' : Kd} {n n' : Bool} (F : Fm (Wx mg mb) h₀ L none h m led) (S : Stk A outer led) (hd : defAt pw 29 = some (nm, ps, bd, sc)) (hf : FnRef h₀ f (nm, ps, bd, sc))
    (hx : (a, K, n) ∈ led) (hK : ∀ h, Is h a K → Is h a (.kI (dg x))) (hy : (a', K', n') ∈ led) (hK' : ∀ h, Is h a' K' → Is h a' (.kI (dg y)))
    (hnx : (dg x).length ≤ 3000) (hny : (dg y).length ≤ 3000) (hck : cs.kind = .function) (hA : Rm 5 (A.deeper (envOf cn cs L ca ccd)))
    (k1 : ∀ r q q' h' t', 0 < y → Fm (Wx mg mb) h₀ L none h' m ((r, .kT [.ref q, .ref q'], true) :: (q, .kP (dg (x / y)), true) :: (q', .kP (dg (x % y)), true) :: led) → Q (.ref r) (St b h' t'))
    (k2 : ∀ u h' t', y = 0 → Fm (Wx mg mb) h₀ L none h' m led → Q (.str "refused" u) (St b h' t')) :
    wpAny (model prog w) (A.deeper (envOf cn cs L ca ccd)) (call (.ref f) [.ref a, .ref a']) Q E (St b h t) := by
  cases hd
  refine r_enterH F S hf (hA.le (by walk_at "m_n")) [("a", .ref a), ("b", .ref a')] ?_ hck
  intro L' h₁ t₁ code d F₁ S₁ hm₁
  replace F₁ := (F₁.also (.tail _ hx) hK).also (.tail _ (.tail _ hy)) hK'
  replace S₁ := S₁.sub (led' := (a', .kI (dg y), n') :: (a, .kI (dg x), n) :: (L, .kD d, true) :: led) (fun _ q => .tail _ (.tail _ q))
  with_reducible refine wpAny_execs_cons ?_
  refine wpAny_Try_except ?_
  refine execs_asg ?_
  (refine r_callL2 (by with_reducible assumption) (by rfl) (by rfl) (by rfl) (by rfl) ?_; intro _ _)
  skip
  by_cases hy0 : 0 < y
  · refine ⟨Fm.keep (by with_reducible assumption), divmod_long_c (by with_reducible assumption) (by rfl) (by assumption) (by walk_at "m_has") (by walk_at "m_has") hy0 (by walk_at "m_n") (by walk_at "m_n") (hA.deeper.le (by walk_at "m_n")) ?_⟩
    intro r q q' h₃ t₃ F₃
    (refine r_store (by with_reducible assumption) ?_; intro _ _ _)
    with_reducible refine wpAny_execs_nil ?_
    with_reducible refine wpAny_execs_nil ?_
    with_reducible refine wpAny_execs_cons ?_
    with_reducible refine wpAny_Return_some ?_
    refine r_loc (by with_reducible assumption) (by rfl) ?_
    skip
    rename_i F₄
    exact k1 r q q' _ _ hy0 (F.backH hm₁ F₄ [(r, .kT [.ref q, .ref q'], true), (q, .kP (dg (x / y)), true), (q', .kP (dg (x % y)), true)] (by walk_at "m_mem") (fun _ q => .tail _ (.tail _ (.tail _ (.tail _ (.tail _ (.tail _ q)))))) (by walk_at "m_sub") rfl)
  · obtain rfl : y = 0 := by walk_at "m_n"
    refine ⟨Fm.keep (by with_reducible assumption), divmod_long_r (by with_reducible assumption) (by rfl) (by assumption) (by walk_at "m_has") (by walk_at "m_has") (hA.deeper.le (by walk_at "m_n")) (Around.frames_deeper S₁.fr) (apart_stays _ L' (envOf cn cs L ca ccd :: outer)) (apart_fun (by with_reducible assumption) S₁ rfl) ?_⟩
    intro e a0 h₄ t₄ hfl us
    refine r_caught PySem.F.isExc_ZeroDivisionError PySem.F.notTuple_ZeroDivisionError (by rw [isSubtype_type]; kernel_rfl) Boot.«ZeroDivisionError» (by with_reducible assumption) S₁ hfl us (by walk_at "m_mem") ?_
    intro h₅ F₅
    refine execs_asg ?_
    ((with_reducible refine x_str ?_); intro _ _)
    (refine r_store (by with_reducible assumption) ?_; intro _ _ _)
    with_reducible refine wpAny_execs_nil ?_
    with_reducible refine wpAny_execs_cons ?_
    with_reducible refine wpAny_Return_some ?_
    refine r_loc (by with_reducible assumption) (by rfl) ?_
    skip
    rename_i F₆
    exact k2 _ _ _ rfl (F.backH hm₁ F₆ [] (by walk_at "m_mem") (fun _ q => .tail _ (.tail _ (.tail _ q))) (by walk_at "m_sub") rfl)
end
section
variable {mg mb : Str → Option Value} {prog : Program} {w : World} {A : Around} {E : Value → Shared → Prop} {b : Shared} {h₀ h : Heap} {L a a' f : Addr} {dl : Option (Addr × Kd)} {t : Nat}
  {m : List (Str × Value)} {led : List Ent} {Q : Value → Shared → Prop} {nm : Str} {ps : Arguments} {bd : List Stmt} {sc : Scope}

theorem to_decimal_c {n : Nat} (F : Fm (Wx mg mb) h₀ L dl h m led) (hd : defAt pw 12 = some (nm, ps, bd, sc)) (hf : FnRef h₀ f (nm, ps, bd, sc)) (hx : Is h a (.kI (dg n))) (hn : n < 1000000000000000000000000000000000000000000000000000000000000) (hA : Rm 1 A)
    (k : ∀ u h' t', Fm (Wx mg mb) h₀ L dl h' m led → Q (.str (Sx (ts n)) u) (St b h' t')) :
    wpAny (model prog w) A (call (.ref f) [.ref a]) Q E (St b h t) := by
  cases hd
  refine r_enter F hf hA [("a", .ref a)] [(a, .kI (dg n), false)] ⟨⟨hx, rfl⟩, trivial⟩ ?_
  intro L' h₁ t₁ code F₁
  have hh := hA.hd
  have hlen : (dg n).length ≤ 15 := dg_len_le (by rw [show (10000 : Int) ^ 15 = 1000000000000000000000000000000000000000000000000000000000000 by decide]; walk_at "m_n")
  refine execs_ifC ?_
  (refine r_len (by with_reducible assumption) (by rfl) (by walk_at "m_has") (by walk_at "m_n") ?_ (by walk_at "m_mem"); intro _ _)
  ((with_reducible refine x_int ?_); intro _ _)
  with_reducible refine P.eq_int ?_
  with_reducible refine wpAny_truthy_bool ?_
  refine ite_beq (fun q1 => ?_) (fun q1 => ?_)
  · with_reducible refine wpAny_execs_cons ?_
    with_reducible refine wpAny_Return_some ?_
    ((with_reducible refine x_str ?_); intro _ _)
    skip
    obtain rfl : n = 0 := dg_nil.mp (List.length_eq_zero_iff.mp (by walk_at "m_n"))
    rw [show Str.ofString "0" = Sx (ts 0) by rw [ts_lt (by decide)]; decide]
    exact k _ _ _ (F.back0 (by with_reducible assumption))
  · obtain ⟨p, hp⟩ : ∃ p, (dg n).length = p + 1 := ⟨(dg n).length - 1, by omega⟩
    have htop : n / 10000 ^ p < 10000 := by
      have := small_of_len (m := n) (k := p + 1) (by walk_at "m_n")
      rw [Nat.pow_succ] at this
      exact Nat.div_lt_of_lt_mul this
    have hlt : (dg n).getD (((dg n).length : Int) - 1).toNat 0 = ((n / 10000 ^ p : Nat) : Int) := by
      rw [show (((dg n).length : Int) - 1).toNat = p by omega, limb_at (by walk_at "m_n"), Nat.mod_eq_of_lt htop]
    with_reducible refine wpAny_execs_nil ?_
    refine execs_asg ?_
    with_reducible refine List_ ?_
    refine args_cons ?_
    refine r_tcall bb_str (by with_reducible assumption) (by walk_at "m_mem") ?_
    refine args_cons ?_
    refine Subscript_ ?_
    refine r_loc (by with_reducible assumption) (by rfl) ?_
    with_reducible refine wpAny_BinOp ?_
    (refine r_len (by with_reducible assumption) (by rfl) (by walk_at "m_has") (by walk_at "m_n") ?_ (by walk_at "m_mem"); intro _ _)
    ((with_reducible refine x_int ?_); intro _ _)
    ((with_reducible refine x_sub ?_); intro _ _)
    (refine x_item (by walk_at "m_has") (by walk_at "m_n") (by walk_at "m_n") (by walk_at "m_n") ?_; intro _)
    with_reducible refine args_nil ?_
    skip
    refine x_strI hlt (by walk_at "m_n") ?_
    intro u₂ t₂
    with_reducible refine args_nil ?_
    refine x_newListS (by assumption) ?_
    intro D h₂ F₂
    (refine r_store (by with_reducible assumption) ?_; intro _ _ _)
    with_reducible refine wpAny_execs_cons ?_
    refine wpAny_For ?_
    refine r_tcall bb_range (by with_reducible assumption) (by walk_at "m_mem") ?_
    refine args_cons ?_
    with_reducible refine wpAny_BinOp ?_
    (refine r_len (by with_reducible assumption) (by rfl) (by walk_at "m_has") (by walk_at "m_n") ?_ (by walk_at "m_mem"); intro _ _)
    ((with_reducible refine x_int ?_); intro _ _)
    ((with_reducible refine x_sub ?_); intro _ _)
    refine args_cons ?_
    with_reducible refine wpAny_UnaryOp ?_
    ((with_reducible refine x_int ?_); intro _ _)
    ((with_reducible refine x_neg ?_); intro _ _)
    refine args_cons ?_
    with_reducible refine wpAny_UnaryOp ?_
    ((with_reducible refine x_int ?_); intro _ _)
    ((with_reducible refine x_neg ?_); intro _ _)
    with_reducible refine args_nil ?_
    (refine x_range3 (by with_reducible assumption) ?_; intro _ _ _ _)
    refine r_down p (by walk_at "m_n") (by assumption) (by walk_at "m_mem") (by walk_at "m_n") hh (σ := List (Str × Tok)) (fun c => some (D, .kS c)) (fun c => [("pieces", .ref D), ("a", .ref a)]) (fun _ => []) [(a, .kI (dg n), false)]
      (fun q c => c.length ≤ 20 - q ∧ (c.map (·.1)).flatMap (fun y => y.cps.toList) = ts (n / 10000 ^ q)) [(Sx (ts (n / 10000 ^ p)), _)] rfl (by walk_at "m_Sub") (by walk_at "m_sub") (fun _ _ q => nomatch q) ⟨by show 1 ≤ 20 - p; omega, by simp⟩ ?_ ?_
    · rintro j c u' h₃ t₃ o I E' hj ⟨hJ1, hJ2⟩ F₃
      dsimp only [List.nil_append, List.cons_append] at hJ1 hJ2 F₃ ⊢
      have hm : n / 10000 ^ j % 10000 < 10000 := Nat.mod_lt _ (by decide)
      with_reducible refine wpAny_execs_cons ?_
      refine wpAny_Expr_any ?_
      refine x_appendCallS (by with_reducible assumption) (by rfl) ?_
      refine x_zfill ?_
      refine r_tcall bb_str (by with_reducible assumption) (by walk_at "m_mem") ?_
      refine args_cons ?_
      refine Subscript_ ?_
      refine r_loc (by with_reducible assumption) (by rfl) ?_
      refine r_loc (by with_reducible assumption) (by rfl) ?_
      (refine x_item (by walk_at "m_has") (by walk_at "m_n") (by walk_at "m_n") (by walk_at "m_n") ?_; intro _)
      with_reducible refine args_nil ?_
      skip
      refine x_strI (n := n / 10000 ^ j % 10000) (by rw [Int.toNat_natCast]; exact limb_at (by walk_at "m_n")) (by walk_at "m_n") ?_
      intro u₄ t₄
      refine ⟨_, _, _, _, rfl, rfl, hm, ?_⟩
      intro u₅ t₅
      refine x_appendS (by assumption) (by walk_at "m_n") ?_
      intro h₅ F₅
      with_reducible refine wpAny_execs_nil ?_
      refine turn_next _ (by assumption) rfl (by walk_at "m_Sub") (by walk_at "m_sub") ⟨by rw [List.length_append, List.length_singleton]; omega, ?_⟩
      rw [List.map_append, List.flatMap_append, hJ2, ts_limb (p := j) (by walk_at "m_n")]
      simp
    · rintro c h₃ t₃ ⟨hJ1, hJ2⟩ F₃
      dsimp only [List.nil_append, List.cons_append] at hJ1 hJ2 F₃ ⊢
      rw [Nat.pow_zero, Nat.div_one] at hJ2
      with_reducible refine wpAny_execs_cons ?_
      with_reducible refine wpAny_Return_some ?_
      skip
      refine x_join (by with_reducible assumption) (by rfl) hJ2 (Nat.le_trans (ts_len (k := 60) (by decide) hn) (by decide)) ?_
      intro u₄ t₄
      exact k _ _ _ (F.back0 F₃)
end
section
variable {mg mb : Str → Option Value} {prog : Program} {w : World} {A : Around} {E : Value → Shared → Prop} {b : Shared} {h₀ h : Heap} {L a a' f : Addr} {dl : Option (Addr × Kd)} {t : Nat}
  {m : List (Str × Value)} {led : List Ent} {Q : Value → Shared → Prop} {nm : Str} {ps : Arguments} {bd : List Stmt} {sc : Scope}

/- a text that is no row of digits -/
def Bad (cs : List Nat) : Prop := cs = [] ∨ ∃ i c, cs[i]? = some c ∧ c ∈ marks ∧ Dig (cs.take i)
theorem from_decimal_c {cs : List Nat} {u : Tok} (F : Fm (Wx mg mb) h₀ L dl h m led) (hd : defAt pw 13 = some (nm, ps, bd, sc)) (hf : FnRef h₀ f (nm, ps, bd, sc)) (hdg : Dig cs) (hne : cs ≠ []) (hl : cs.length ≤ 500) (hA : Rm 2 A)
    (k : ∀ r h' t', Fm (Wx mg mb) h₀ L dl h' m ((r, .kP (dg (dv cs)), true) :: led) → Q (.ref r) (St b h' t')) :
    wpAny (model prog w) A (call (.ref f) [.str (Sx cs) u]) Q E (St b h t) := by
  cases hd
  refine r_enter F hf (hA.le (by walk_at "m_n")) [("s", .str (Sx cs) u)] [] trivial ?_
  intro L' h₁ t₁ code F₁
  have hh := hA.hd
  refine execs_ifC ?_
  refine r_loc (by with_reducible assumption) (by rfl) ?_
  ((with_reducible refine x_str ?_); intro _ _)
  refine x_eqS rfl (show _ = Sx [] from rfl) (c := false) (by simpa using hne) ?_
  with_reducible refine wpAny_truthy_bool ?_
  with_reducible refine ite_f ?_
  with_reducible refine wpAny_execs_nil ?_
  with_reducible refine wpAny_execs_cons ?_
  refine wpAny_For ?_
  refine r_loc (by with_reducible assumption) (by rfl) ?_
  refine r_str (by with_reducible assumption) (by rw [← Array.all_toList, sx_list, List.all_eq_true]; intro c hc; have := hdg c hc; exact decide_eq_true (by walk_at "m_n")) (by exact ⟨_, .head _⟩) hh (σ := Unit) (fun _ => none) (fun _ => [("s", .str (Sx cs) u)]) (fun _ => []) [] (fun _ _ => True) () rfl (by walk_at "m_Sub") (by walk_at "m_sub") (fun _ _ q => nomatch q) trivial ?_ ?_
  · rintro j c cp u' h₂ t₂ o I ax oX E' hj hJ F₂
    dsimp only [List.nil_append, List.cons_append] at F₂ ⊢
    refine wpAny_assign_Name ?_
    (refine r_store (by with_reducible assumption) ?_; intro _ _ _)
    refine execs_ifC ?_
    refine r_loc (by with_reducible assumption) (by rfl) ?_
    ((with_reducible refine x_str ?_); intro _ _)
    refine x_digit (hdg cp (List.mem_of_getElem? (by simpa using hj))) ?_
    with_reducible refine wpAny_truthy_bool ?_
    with_reducible refine ite_f ?_
    with_reducible refine wpAny_execs_nil ?_
    with_reducible refine wpAny_execs_nil ?_
    exact turn_next () (by assumption) rfl (by walk_at "m_Sub") (by walk_at "m_sub") trivial
  · rintro c h₂ t₂ hJ F₂
    dsimp only [List.nil_append, List.cons_append] at F₂ ⊢
    refine execs_asg ?_
    with_reducible refine List_ ?_
    with_reducible refine args_nil ?_
    skip
    refine x_newListD (by assumption) .nil (by decide) ?_
    intro D h₃ F₃
    (refine r_store (by with_reducible assumption) ?_; intro _ _ _)
    refine execs_asg ?_
    refine r_bcall bb_len (by with_reducible assumption) (by walk_at "m_mem") ?_
    refine args_loc (by with_reducible assumption) (by rfl) ?_
    with_reducible refine args_nil ?_
    (refine x_lenS (by walk_at "m_n") ?_; intro _ _)
    (refine r_store (by with_reducible assumption) ?_; intro _ _ _)
    with_reducible refine wpAny_execs_cons ?_
    refine r_while (σ := List Int × Int × Tok) (fun c => some (D, .kP c.1)) (fun c => [("limbs", .ref D), ("end", .int c.2.1 c.2.2), ("s", .str (Sx cs) u)]) (fun _ => []) (fun c => ReadJ cs c.1 c.2.1) (fun c => c.2.1.toNat) ([], (cs.length : Nat), _) (Fm.wk (by assumption) (by walk_at "m_Sub") (by walk_at "m_sub")) (ReadJ.start cs) ?_
    rintro ⟨acc, e, ue⟩ h₄ t₄ E' hJ F₄
    dsimp only at hJ F₄ ⊢
    have hhi := hJ.hi
    have hal := hJ.len
    refine wpAny_isTrue_Compare1 ?_
    refine r_loc (by with_reducible assumption) (by rfl) ?_
    ((with_reducible refine x_int ?_); intro _ _)
    with_reducible refine P.gt_int ?_
    with_reducible refine wpAny_truthy_bool ?_
    refine ite_dec (fun q1 => ?_) (fun q1 => ?_)
    · with_reducible refine wpAny_execs_cons ?_
      refine wpAny_Expr_any ?_
      refine x_appendCall (by with_reducible assumption) (by rfl) ?_
      refine r_tcall bb_int (by with_reducible assumption) (by walk_at "m_mem") ?_
      refine args_cons ?_
      skip
      refine x_cutS (by assumption) (by rfl) (by walk_at "m_n") ?_
      refine r_bcall bb_max (by with_reducible assumption) (by walk_at "m_mem") ?_
      refine args_cons ?_
      ((with_reducible refine x_int ?_); intro _ _)
      refine args_cons ?_
      with_reducible refine wpAny_BinOp ?_
      refine r_loc (by with_reducible assumption) (by rfl) ?_
      ((with_reducible refine x_int ?_); intro _ _)
      ((with_reducible refine x_sub ?_); intro _ _)
      with_reducible refine args_nil ?_
      (refine x_max (by with_reducible assumption) (by assumption) ?_; intro _ _ _ _)
      refine r_loc (by with_reducible assumption) (by rfl) ?_
      have hmx : (max 0 (e - 4)).toNat = (e - 4).toNat := by walk_at "m_n"
      refine ⟨_, _, _, _, _, _, _, _, rfl, rfl, rfl, by with_reducible assumption, by omega, by omega, hhi, ?_⟩
      intro u₅ h₅ t₅ F₅
      rw [hmx]
      with_reducible refine args_nil ?_
      refine x_intS (fun c hc => hdg c (List.mem_of_mem_take (List.mem_of_mem_drop hc))) (fun q => ?_) (by rw [List.length_drop, List.length_take]; exact Nat.le_trans (Nat.sub_le _ _) (Nat.le_trans (Nat.min_le_right _ _) (Nat.le_trans hl (by decide)))) ?_
      · have := congrArg List.length q
        rw [List.length_drop, List.length_take, List.length_nil] at this
        omega
      intro u₆ t₆
      (refine x_append (by with_reducible assumption) (by walk_at "m_n") ?_; intro _ _)
      with_reducible refine wpAny_execs_cons ?_
      with_reducible refine wpAny_AugAssign_Name ?_
      refine r_locn (by with_reducible assumption) (by rfl) ?_
      ((with_reducible refine x_int ?_); intro _ _)
      ((with_reducible refine x_isub ?_); intro _ _)
      (refine r_store (by with_reducible assumption) ?_; intro _ _ _)
      with_reducible refine wpAny_execs_nil ?_
      exact turn_next (_, _, _) (by assumption) rfl (by walk_at "m_Sub") (by walk_at "m_sub") ⟨hJ.step hdg q1 rfl, by dsimp only; omega⟩
    · with_reducible refine wpAny_execs_cons ?_
      with_reducible refine wpAny_Return_some ?_
      (refine r_callL1 (by with_reducible assumption) (by rfl) (by rfl) (by rfl) ?_; intro _ _)
      skip
      refine ⟨Fm.keep (by with_reducible assumption), trimmed_c (by with_reducible assumption) (by rfl) (by assumption) (by walk_at "m_has") (by walk_at "m_n") hJ.ok hA.deeper ?_⟩
      intro r h₅ t₅ F₅
      rw [hJ.fin q1, Int.toNat_natCast] at F₅
      exact k r _ _ (F.back F₅ (by walk_at "m_mem"))

theorem from_decimal_r {cs : List Nat} {u : Tok} {base : Heap} {l : List Env} (F : Fm (Wx mg mb) h₀ L dl h m led) (hd : defAt pw 13 = some (nm, ps, bd, sc)) (hf : FnRef h₀ f (nm, ps, bd, sc)) (hbad : Bad cs) (has : cs.all (· < 128) = true)
    (hA : Rm 2 A) (hAf : A.frames = some l) (hb : base.StaysIn h) (hfun : h.FunFrames base l)
    (k : ∀ e a0 h' t', Heap.FlyingW base l e (.type "ValueError") a0 h' → h.UpToSlots h' → E (.ref e) (St b h' t')) :
    wpAny (model prog w) A (call (.ref f) [.str (Sx cs) u]) Q E (St b h t) := by
  cases hd
  refine r_enterE F hf (hA.le (by walk_at "m_n")) [("s", .str (Sx cs) u)] [] trivial ?_
  intro L' h₁ t₁ code F₁
  have hh := hA.hd
  rcases hbad with rfl | ⟨i, c, hi, hc, hdg⟩
  · refine execs_ifC ?_
    refine r_loc (by with_reducible assumption) (by rfl) ?_
    ((with_reducible refine x_str ?_); intro _ _)
    refine x_eqS rfl (show _ = Sx [] from rfl) (c := true) rfl ?_
    with_reducible refine wpAny_truthy_bool ?_
    with_reducible refine ite_t ?_
    with_reducible refine wpAny_execs_cons ?_
    exact x_raise PySem.F.excCall_ValueError PySem.F.excRaise_ValueError Boot.«ValueError» F₁ (by walk_at "m_mem") hh hAf hb hfun k
  · have hne : cs ≠ [] := fun q => by rw [q] at hi; cases hi
    refine execs_ifC ?_
    refine r_loc (by with_reducible assumption) (by rfl) ?_
    ((with_reducible refine x_str ?_); intro _ _)
    refine x_eqS rfl (show _ = Sx [] from rfl) (c := false) (by simpa using hne) ?_
    with_reducible refine wpAny_truthy_bool ?_
    with_reducible refine ite_f ?_
    with_reducible refine wpAny_execs_nil ?_
    with_reducible refine wpAny_execs_cons ?_
    refine wpAny_For ?_
    refine r_loc (by with_reducible assumption) (by rfl) ?_
    refine r_strE F₁ (by rw [← Array.all_toList, sx_list]; exact has) (by exact ⟨_, .head _⟩) hh (σ := Unit) (fun _ => none) (fun _ => [("s", .str (Sx cs) u)]) (fun _ => []) [] (fun j _ => j ≤ i) () rfl (by walk_at "m_Sub") (by walk_at "m_sub") (fun _ _ q => nomatch q) (Nat.zero_le _) PassesOwn.leaving ?_ ?_
    · rintro j c' cp u' h₂ t₂ o I ax oX hj hJ F₂
      dsimp only [List.nil_append, List.cons_append] at hJ F₂ ⊢
      have hj' : cs[j]? = some cp := by simpa using hj
      refine wpAny_assign_Name ?_
      (refine r_store (by with_reducible assumption) ?_; intro _ _ _)
      refine execs_ifC ?_
      refine r_loc (by with_reducible assumption) (by rfl) ?_
      ((with_reducible refine x_str ?_); intro _ _)
      by_cases q : j = i
      · subst q
        obtain rfl : cp = c := Option.some.inj (hj'.symm.trans hi)
        refine x_mark hc ?_
        with_reducible refine wpAny_truthy_bool ?_
        with_reducible refine ite_t ?_
        with_reducible refine wpAny_execs_cons ?_
        exact x_raise PySem.F.excCall_ValueError PySem.F.excRaise_ValueError Boot.«ValueError» (by with_reducible assumption) (by walk_at "m_mem") hh hAf hb hfun k
      · refine x_digit (hdg cp (List.mem_of_getElem? (i := j) (by rw [List.getElem?_take, if_pos (by walk_at "m_n")]; exact hj'))) ?_
        with_reducible refine wpAny_truthy_bool ?_
        with_reducible refine ite_f ?_
        with_reducible refine wpAny_execs_nil ?_
        with_reducible refine wpAny_execs_nil ?_
        exact turn_next () (by assumption) rfl (by walk_at "m_Sub") (by walk_at "m_sub") (by show j + 1 ≤ i; walk_at "m_n")
    · rintro c' h₂ t₂ hJ F₂
      have h1 := (List.getElem?_eq_some_iff.mp hi).1
      have h2 : cs.toArray.size ≤ i := hJ
      rw [List.size_toArray] at h2
      omega

variable {outer : List Env} {cn : Str} {cs' : Scope} {ca : Addr} {ccd : Value}
theorem law_read_c {cs : List Nat} {u : Tok} (F : Fm (Wx mg mb) h₀ L none h m led) (S : Stk A outer led) (hd : defAt pw 27 = some (nm, ps, bd, sc)) (hf : FnRef h₀ f (nm, ps, bd, sc)) (hdg : Dig cs) (hne : cs ≠ []) (hl : cs.length ≤ 500)
    (hck : cs'.kind = .function) (hA : Rm 4 (A.deeper (envOf cn cs' L ca ccd)))
    (k : ∀ r h' t', Fm (Wx mg mb) h₀ L none h' m ((r, .kP (dg (dv cs)), true) :: led) → Q (.ref r) (St b h' t')) :
    wpAny (model prog w) (A.deeper (envOf cn cs' L ca ccd)) (call (.ref f) [.str (Sx cs) u]) Q E (St b h t) := by
  cases hd
  refine r_enterH F S hf (hA.le (by walk_at "m_n")) [("text", .str (Sx cs) u)] ?_ hck
  intro L' h₁ t₁ code d F₁ S₁ hm₁
  with_reducible refine wpAny_execs_cons ?_
  refine wpAny_Try_except ?_
  refine execs_asg ?_
  (refine r_callL1 (by with_reducible assumption) (by rfl) (by rfl) (by rfl) ?_; intro _ _)
  skip
  refine ⟨Fm.keep (by with_reducible assumption), from_decimal_c (by with_reducible assumption) (by rfl) (by assumption) hdg hne hl (hA.deeper.le (by walk_at "m_n")) ?_⟩
  intro r h₃ t₃ F₃
  (refine r_store (by with_reducible assumption) ?_; intro _ _ _)
  with_reducible refine wpAny_execs_nil ?_
  with_reducible refine wpAny_execs_nil ?_
  with_reducible refine wpAny_execs_cons ?_
  with_reducible refine wpAny_Return_some ?_
  refine r_loc (by with_reducible assumption) (by rfl) ?_
  skip
  rename_i F₄
  exact k r _ _ (F.backH hm₁ F₄ [(r, .kP (dg (dv cs)), true)] (by walk_at "m_mem") (fun _ q => .tail _ (.tail _ q)) (by walk_at "m_sub") rfl)
theorem law_read_r {cs : List Nat} {u : Tok} (F : Fm (Wx mg mb) h₀ L none h m led) (S : Stk A outer led) (hd : defAt pw 27 = some (nm, ps, bd, sc)) (hf : FnRef h₀ f (nm, ps, bd, sc)) (hbad : Bad cs) (has : cs.all (· < 128) = true)
    (hck : cs'.kind = .function) (hA : Rm 4 (A.deeper (envOf cn cs' L ca ccd)))
    (k : ∀ u h' t', Fm (Wx mg mb) h₀ L none h' m led → Q (.str "refused" u) (St b h' t')) :
    wpAny (model prog w) (A.deeper (envOf cn cs' L ca ccd)) (call (.ref f) [.str (Sx cs) u]) Q E (St b h t) := by
  cases hd
  refine r_enterH F S hf (hA.le (by walk_at "m_n")) [("text", .str (Sx cs) u)] ?_ hck
  intro L' h₁ t₁ code d F₁ S₁ hm₁
  with_reducible refine wpAny_execs_cons ?_
  refine wpAny_Try_except ?_
  refine execs_asg ?_
  (refine r_callL1 (by with_reducible assumption) (by rfl) (by rfl) (by rfl) ?_; intro _ _)
  skip
  refine ⟨Fm.keep (by with_reducible assumption), from_decimal_r (by with_reducible assumption) (by rfl) (by assumption) hbad has (hA.deeper.le (by walk_at "m_n")) (Around.frames_deeper S₁.fr) (apart_stays _ L' (envOf cn cs' L ca ccd :: outer)) (apart_fun (by with_reducible assumption) S₁ rfl) ?_⟩
  intro e a0 h₄ t₄ hfl us
  refine r_caught PySem.F.isExc_ValueError PySem.F.notTuple_ValueError (by rw [isSubtype_type]; kernel_rfl) Boot.«ValueError» (by with_reducible assumption) S₁ hfl us (by walk_at "m_mem") ?_
  intro h₅ F₅
  refine execs_asg ?_
  ((with_reducible refine x_str ?_); intro _ _)
  (refine r_store (by with_reducible assumption) ?_; intro _ _ _)
  with_reducible refine wpAny_execs_nil ?_
  with_reducible refine wpAny_execs_cons ?_
  with_reducible refine wpAny_Return_some ?_
  refine r_loc (by with_reducible assumption) (by rfl) ?_
  skip
  rename_i F₆
  exact k _ _ _ (F.backH hm₁ F₆ [] (by walk_at "m_mem") (fun _ q => .tail _ q) (by walk_at "m_sub") rfl)
end
section
variable {mg mb : Str → Option Value} {prog : Program} {w : World} {A : Around} {E : Value → Shared → Prop} {b : Shared} {h₀ h : Heap} {L a a' f : Addr} {dl : Option (Addr × Kd)} {t : Nat}
  {m : List (Str × Value)} {led : List Ent} {Q : Value → Shared → Prop} {nm : Str} {ps : Arguments} {bd : List Stmt} {sc : Scope}

theorem borders_at : ∀ i : Nat, 0 ≤ ([0, 1, 2, 99, 100, 9999, 10000, 99999999] : List Int).getD i 0 ∧ ([0, 1, 2, 99, 100, 9999, 10000, 99999999] : List Int).getD i 0 ≤ 99999999
  | 0 => by decide
  | 1 => by decide
  | 2 => by decide
  | 3 => by decide
  | 4 => by decide
  | 5 => by decide
  | 6 => by decide
  | 7 => by decide
  | _ + 8 => ⟨Int.le_refl 0, show (0 : Int) ≤ 99999999 by decide⟩
theorem law_pick_c {x n : Int} {u u' : Tok} (F : Fm (Wx mg mb) h₀ L dl h m led) (hd : defAt pw 18 = some (nm, ps, bd, sc)) (hf : FnRef h₀ f (nm, ps, bd, sc)) (hn : 0 < n) (hA : Rm 1 A)
    (k : ∀ u h' t', Fm (Wx mg mb) h₀ L dl h' m led → Q (.int (x % n) u) (St b h' t')) :
    wpAny (model prog w) A (call (.ref f) [.int x u, .int n u']) Q E (St b h t) := by
  cases hd
  refine r_enter F hf hA [("x", .int x u), ("n", .int n u')] [] trivial ?_
  intro L' h₁ t₁ code F₁
  with_reducible refine wpAny_execs_cons ?_
  with_reducible refine wpAny_Return_some ?_
  with_reducible refine wpAny_BinOp ?_
  refine r_loc (by with_reducible assumption) (by rfl) ?_
  refine r_loc (by with_reducible assumption) (by rfl) ?_
  ((with_reducible refine x_mod (by walk_at "m_n") ?_); intro _ _)
  skip
  exact k _ _ _ (F.back0 (by with_reducible assumption))

theorem law_side_c {kind : Nat} {ki c : Int} {u u' : Tok} (F : Fm (Wx mg mb) h₀ L dl h m led) (hd : defAt pw 19 = some (nm, ps, bd, sc)) (hf : FnRef h₀ f (nm, ps, bd, sc)) (hk : ki = (kind : Int)) (hk4 : kind ≤ 4) (hA : Rm 1 A)
    (k : ∀ (v : Nat) u h' t', v < 100000000 → (kind = 2 → v < 12) → Fm (Wx mg mb) h₀ L dl h' m led → Q (.int (v : Int) u) (St b h' t')) :
    wpAny (model prog w) A (call (.ref f) [.int ki u, .int c u']) Q E (St b h t) := by
  cases hd
  subst hk
  refine r_enter F hf hA [("kind", .int (kind : Int) u), ("c", .int c u')] [] trivial ?_
  intro L' h₁ t₁ code F₁
  have fin : ∀ (i : Int), 0 ≤ i → i < 100000000 → (kind = 2 → i < 12) → ∀ u h' t', Fm (Wx mg mb) h₀ L dl h' m led → Q (.int i u) (St b h' t') := fun i h0 h1 h2 u h' t' F' => by
    obtain ⟨v, rfl⟩ := Int.eq_ofNat_of_zero_le h0
    exact k v u h' t' (by walk_at "m_n") (fun q => by have := h2 q; walk_at "m_n") F'
  rcases (le4 (by walk_at "m_n")) with rfl | rfl | rfl | rfl | rfl
  · (refine x_ifEq (by with_reducible assumption) (by rfl) (by walk_at "m_n") ?_; intro _)
    with_reducible refine wpAny_execs_cons ?_
    with_reducible refine wpAny_Return_some ?_
    with_reducible refine wpAny_BinOp ?_
    refine r_loc (by with_reducible assumption) (by rfl) ?_
    ((with_reducible refine x_int ?_); intro _ _)
    ((with_reducible refine x_mod (by walk_at "m_n") ?_); intro _ _)
    skip
    exact fin _ (by walk_at "m_n") (by walk_at "m_n") (by walk_at "m_n") _ _ _ (F.back0 (by with_reducible assumption))
  · (refine x_ifNe (by with_reducible assumption) (by rfl) (by walk_at "m_n") ?_; intro _)
    (refine x_ifEq (by with_reducible assumption) (by rfl) (by walk_at "m_n") ?_; intro _)
    with_reducible refine wpAny_execs_cons ?_
    with_reducible refine wpAny_Return_some ?_
    with_reducible refine wpAny_BinOp ?_
    refine r_loc (by with_reducible assumption) (by rfl) ?_
    ((with_reducible refine x_int ?_); intro _ _)
    ((with_reducible refine x_mod (by walk_at "m_n") ?_); intro _ _)
    skip
    exact fin _ (by walk_at "m_n") (by walk_at "m_n") (by walk_at "m_n") _ _ _ (F.back0 (by with_reducible assumption))
  · (refine x_ifNe (by with_reducible assumption) (by rfl) (by walk_at "m_n") ?_; intro _)
    (refine x_ifNe (by with_reducible assumption) (by rfl) (by walk_at "m_n") ?_; intro _)
    (refine x_ifEq (by with_reducible assumption) (by rfl) (by walk_at "m_n") ?_; intro _)
    with_reducible refine wpAny_execs_cons ?_
    with_reducible refine wpAny_Return_some ?_
    with_reducible refine wpAny_BinOp ?_
    refine r_loc (by with_reducible assumption) (by rfl) ?_
    ((with_reducible refine x_int ?_); intro _ _)
    ((with_reducible refine x_mod (by walk_at "m_n") ?_); intro _ _)
    skip
    exact fin _ (by walk_at "m_n") (by walk_at "m_n") (by walk_at "m_n") _ _ _ (F.back0 (by with_reducible assumption))
  · (refine x_ifNe (by with_reducible assumption) (by rfl) (by walk_at "m_n") ?_; intro _)
    (refine x_ifNe (by with_reducible assumption) (by rfl) (by walk_at "m_n") ?_; intro _)
    (refine x_ifNe (by with_reducible assumption) (by rfl) (by walk_at "m_n") ?_; intro _)
    (refine x_ifEq (by with_reducible assumption) (by rfl) (by walk_at "m_n") ?_; intro _)
    with_reducible refine wpAny_execs_cons ?_
    with_reducible refine wpAny_Return_some ?_
    refine Subscript_ ?_
    (refine r_tab (by with_reducible assumption) (by walk_at "m_mem") ?_; intro _ _ _ _)
    with_reducible refine wpAny_BinOp ?_
    refine r_loc (by with_reducible assumption) (by rfl) ?_
    ((with_reducible refine x_int ?_); intro _ _)
    ((with_reducible refine x_mod (by walk_at "m_n") ?_); intro _ _)
    (refine x_itemT (by with_reducible assumption) (by with_reducible assumption) (by walk_at "m_n") (by simp only [List.length_cons, List.length_nil]; walk_at "m_n") (by walk_at "m_n") ?_; intro _)
    skip
    have hb := borders_at (c % 8).toNat
    exact fin _ hb.1 (by walk_at "m_n") (by walk_at "m_n") _ _ _ (F.back0 (by with_reducible assumption))
  · (refine x_ifNe (by with_reducible assumption) (by rfl) (by walk_at "m_n") ?_; intro _)
    (refine x_ifNe (by with_reducible assumption) (by rfl) (by walk_at "m_n") ?_; intro _)
    (refine x_ifNe (by with_reducible assumption) (by rfl) (by walk_at "m_n") ?_; intro _)
    (refine x_ifNe (by with_reducible assumption) (by rfl) (by walk_at "m_n") ?_; intro _)
    with_reducible refine wpAny_execs_cons ?_
    with_reducible refine wpAny_Return_some ?_
    with_reducible refine wpAny_BinOp ?_
    ((with_reducible refine x_int ?_); intro _ _)
    with_reducible refine wpAny_BinOp ?_
    refine r_loc (by with_reducible assumption) (by rfl) ?_
    ((with_reducible refine x_int ?_); intro _ _)
    ((with_reducible refine x_mod (by walk_at "m_n") ?_); intro _ _)
    ((with_reducible refine x_sub ?_); intro _ _)
    skip
    exact fin _ (by walk_at "m_n") (by walk_at "m_n") (by walk_at "m_n") _ _ _ (F.back0 (by with_reducible assumption))

theorem law_radicand_c {S how : Nat} {si hi lo : Int} {u u' u'' : Tok} (F : Fm (Wx mg mb) h₀ L dl h m led) (hd : defAt pw 20 = some (nm, ps, bd, sc)) (hf : FnRef h₀ f (nm, ps, bd, sc)) (hs : si = (S : Int)) (hS : S < 100000000) (hh : hi = (how : Int)) (hh4 : how ≤ 4) (hA : Rm 1 A)
    (k : ∀ (v : Nat) u h' t', v ≤ S * S + 2 * S → Fm (Wx mg mb) h₀ L dl h' m led → Q (.int (v : Int) u) (St b h' t')) :
    wpAny (model prog w) A (call (.ref f) [.int si u, .int hi u', .int lo u'']) Q E (St b h t) := by
  cases hd
  subst hs; subst hh
  refine r_enter F hf hA [("side", .int (S : Int) u), ("how", .int (how : Int) u'), ("loose", .int lo u'')] [] trivial ?_
  intro L' h₁ t₁ code F₁
  have sq : (S : Int) * (S : Int) = ((S * S : Nat) : Int) := (Int.natCast_mul S S).symm
  have fin : ∀ (i : Int), 0 ≤ i → i ≤ (S : Int) * (S : Int) + 2 * (S : Int) → ∀ u h' t', Fm (Wx mg mb) h₀ L dl h' m led → Q (.int i u) (St b h' t') := fun i h0 h1 u h' t' F' => by
    obtain ⟨v, rfl⟩ := Int.eq_ofNat_of_zero_le h0
    exact k v u h' t' (by rw [sq] at h1; walk_at "m_n") F'
  have p0 : 0 ≤ (S : Int) * (S : Int) := by rw [sq]; exact Int.natCast_nonneg _
  rcases (le4 (by walk_at "m_n")) with rfl | rfl | rfl | rfl | rfl
  · (refine x_ifEq (by with_reducible assumption) (by rfl) (by walk_at "m_n") ?_; intro _)
    with_reducible refine wpAny_execs_cons ?_
    with_reducible refine wpAny_Return_some ?_
    with_reducible refine wpAny_BinOp ?_
    refine r_loc (by with_reducible assumption) (by rfl) ?_
    refine r_loc (by with_reducible assumption) (by rfl) ?_
    ((with_reducible refine x_mul (by first | exact IntMulOk.of_right (intBits_le_64 (by walk_at "m_n") (by walk_at "m_n")) | exact IntMulOk.of_left (intBits_le_64 (by walk_at "m_n") (by walk_at "m_n")) | exact mul_fits2 (by walk_at "m_n") (by walk_at "m_n") (by walk_at "m_n") (by walk_at "m_n")) ?_); intro _ _)
    skip
    exact fin _ p0 (by walk_at "m_n") _ _ _ (F.back0 (by with_reducible assumption))
  · (refine x_ifNe (by with_reducible assumption) (by rfl) (by walk_at "m_n") ?_; intro _)
    (refine x_ifEq (by with_reducible assumption) (by rfl) (by walk_at "m_n") ?_; intro _)
    with_reducible refine wpAny_execs_cons ?_
    with_reducible refine wpAny_Return_some ?_
    with_reducible refine wpAny_BinOp ?_
    with_reducible refine wpAny_BinOp ?_
    refine r_loc (by with_reducible assumption) (by rfl) ?_
    refine r_loc (by with_reducible assumption) (by rfl) ?_
    ((with_reducible refine x_mul (by first | exact IntMulOk.of_right (intBits_le_64 (by walk_at "m_n") (by walk_at "m_n")) | exact IntMulOk.of_left (intBits_le_64 (by walk_at "m_n") (by walk_at "m_n")) | exact mul_fits2 (by walk_at "m_n") (by walk_at "m_n") (by walk_at "m_n") (by walk_at "m_n")) ?_); intro _ _)
    with_reducible refine wpAny_BinOp ?_
    ((with_reducible refine x_int ?_); intro _ _)
    refine r_loc (by with_reducible assumption) (by rfl) ?_
    ((with_reducible refine x_mul (by first | exact IntMulOk.of_right (intBits_le_64 (by walk_at "m_n") (by walk_at "m_n")) | exact IntMulOk.of_left (intBits_le_64 (by walk_at "m_n") (by walk_at "m_n")) | exact mul_fits2 (by walk_at "m_n") (by walk_at "m_n") (by walk_at "m_n") (by walk_at "m_n")) ?_); intro _ _)
    ((with_reducible refine x_add ?_); intro _ _)
    skip
    exact fin _ (by walk_at "m_n") (by walk_at "m_n") _ _ _ (F.back0 (by with_reducible assumption))
  · (refine x_ifNe (by with_reducible assumption) (by rfl) (by walk_at "m_n") ?_; intro _)
    (refine x_ifNe (by with_reducible assumption) (by rfl) (by walk_at "m_n") ?_; intro _)
    (refine x_ifEq (by with_reducible assumption) (by rfl) (by walk_at "m_n") ?_; intro _)
    with_reducible refine wpAny_execs_cons ?_
    with_reducible refine wpAny_Return_some ?_
    with_reducible refine wpAny_BinOp ?_
    with_reducible refine wpAny_BinOp ?_
    refine r_loc (by with_reducible assumption) (by rfl) ?_
    refine r_loc (by with_reducible assumption) (by rfl) ?_
    ((with_reducible refine x_mul (by first | exact IntMulOk.of_right (intBits_le_64 (by walk_at "m_n") (by walk_at "m_n")) | exact IntMulOk.of_left (intBits_le_64 (by walk_at "m_n") (by walk_at "m_n")) | exact mul_fits2 (by walk_at "m_n") (by walk_at "m_n") (by walk_at "m_n") (by walk_at "m_n")) ?_); intro _ _)
    refine r_loc (by with_reducible assumption) (by rfl) ?_
    ((with_reducible refine x_add ?_); intro _ _)
    skip
    exact fin _ (by walk_at "m_n") (by walk_at "m_n") _ _ _ (F.back0 (by with_reducible assumption))
  · (refine x_ifNe (by with_reducible assumption) (by rfl) (by walk_at "m_n") ?_; intro _)
    (refine x_ifNe (by with_reducible assumption) (by rfl) (by walk_at "m_n") ?_; intro _)
    (refine x_ifNe (by with_reducible assumption) (by rfl) (by walk_at "m_n") ?_; intro _)
    with_reducible refine wpAny_execs_cons ?_
    with_reducible refine wpAny_If ?_
    with_reducible refine wpAny_isTrue_BoolOp ?_
    with_reducible refine wpAny_allTrue_And_cons ?_
    refine wpAny_isTrue_Compare1 ?_
    refine r_loc (by with_reducible assumption) (by rfl) ?_
    ((with_reducible refine x_int ?_); intro _ _)
    with_reducible refine P.eq_int ?_
    with_reducible refine wpAny_truthy_bool ?_
    with_reducible refine ite_beq (fun _ => ?_) (fun q => absurd (by walk_at "m_n") q)
    with_reducible refine wpAny_allTrue_And_cons ?_
    refine wpAny_isTrue_Compare1 ?_
    refine r_loc (by with_reducible assumption) (by rfl) ?_
    ((with_reducible refine x_int ?_); intro _ _)
    with_reducible refine P.gt_int ?_
    with_reducible refine wpAny_truthy_bool ?_
    refine ite_dec (fun q1 => ?_) (fun q1 => ?_)
    · with_reducible refine wpAny_allTrue_And_nil ?_
      with_reducible refine ite_t ?_
      with_reducible refine wpAny_execs_cons ?_
      with_reducible refine wpAny_Return_some ?_
      with_reducible refine wpAny_BinOp ?_
      with_reducible refine wpAny_BinOp ?_
      refine r_loc (by with_reducible assumption) (by rfl) ?_
      refine r_loc (by with_reducible assumption) (by rfl) ?_
      ((with_reducible refine x_mul (by first | exact IntMulOk.of_right (intBits_le_64 (by walk_at "m_n") (by walk_at "m_n")) | exact IntMulOk.of_left (intBits_le_64 (by walk_at "m_n") (by walk_at "m_n")) | exact mul_fits2 (by walk_at "m_n") (by walk_at "m_n") (by walk_at "m_n") (by walk_at "m_n")) ?_); intro _ _)
      ((with_reducible refine x_int ?_); intro _ _)
      ((with_reducible refine x_sub ?_); intro _ _)
      skip
      have : 1 ≤ (S : Int) * (S : Int) := by rw [sq]; have := Nat.mul_le_mul (show 1 ≤ S by walk_at "m_n") (show 1 ≤ S by walk_at "m_n"); walk_at "m_n"
      exact fin _ (by walk_at "m_n") (by walk_at "m_n") _ _ _ (F.back0 (by with_reducible assumption))
    · with_reducible refine ite_f ?_
      with_reducible refine wpAny_execs_nil ?_
      with_reducible refine wpAny_execs_cons ?_
      with_reducible refine wpAny_Return_some ?_
      with_reducible refine wpAny_BinOp ?_
      with_reducible refine wpAny_BinOp ?_
      refine r_loc (by with_reducible assumption) (by rfl) ?_
      refine r_loc (by with_reducible assumption) (by rfl) ?_
      ((with_reducible refine x_mul (by first | exact IntMulOk.of_right (intBits_le_64 (by walk_at "m_n") (by walk_at "m_n")) | exact IntMulOk.of_left (intBits_le_64 (by walk_at "m_n") (by walk_at "m_n")) | exact mul_fits2 (by walk_at "m_n") (by walk_at "m_n") (by walk_at "m_n") (by walk_at "m_n")) ?_); intro _ _)
      with_reducible refine wpAny_BinOp ?_
      refine r_loc (by with_reducible assumption) (by rfl) ?_
      with_reducible refine wpAny_BinOp ?_
      with_reducible refine wpAny_BinOp ?_
      ((with_reducible refine x_int ?_); intro _ _)
      refine r_loc (by with_reducible assumption) (by rfl) ?_
      ((with_reducible refine x_mul (by first | exact IntMulOk.of_right (intBits_le_64 (by walk_at "m_n") (by walk_at "m_n")) | exact IntMulOk.of_left (intBits_le_64 (by walk_at "m_n") (by walk_at "m_n")) | exact mul_fits2 (by walk_at "m_n") (by walk_at "m_n") (by walk_at "m_n") (by walk_at "m_n")) ?_); intro _ _)
      ((with_reducible refine x_int ?_); intro _ _)
      ((with_reducible refine x_add ?_); intro _ _)
      ((with_reducible refine x_mod (by walk_at "m_n") ?_); intro _ _)
      ((with_reducible refine x_add ?_); intro _ _)
      skip
      have := Int.emod_nonneg lo (show 2 * (S : Int) + 1 ≠ 0 by walk_at "m_n")
      have := Int.emod_lt_of_pos lo (show 0 < 2 * (S : Int) + 1 by walk_at "m_n")
      exact fin _ (by walk_at "m_n") (by walk_at "m_n") _ _ _ (F.back0 (by with_reducible assumption))
  · (refine x_ifNe (by with_reducible assumption) (by rfl) (by walk_at "m_n") ?_; intro _)
    (refine x_ifNe (by with_reducible assumption) (by rfl) (by walk_at "m_n") ?_; intro _)
    (refine x_ifNe (by with_reducible assumption) (by rfl) (by walk_at "m_n") ?_; intro _)
    with_reducible refine wpAny_execs_cons ?_
    with_reducible refine wpAny_If ?_
    with_reducible refine wpAny_isTrue_BoolOp ?_
    with_reducible refine wpAny_allTrue_And_cons ?_
    refine wpAny_isTrue_Compare1 ?_
    refine r_loc (by with_reducible assumption) (by rfl) ?_
    ((with_reducible refine x_int ?_); intro _ _)
    with_reducible refine P.eq_int ?_
    with_reducible refine wpAny_truthy_bool ?_
    with_reducible refine ite_beq (fun q => absurd q (by walk_at "m_n")) (fun _ => ?_)
    with_reducible refine ite_f ?_
    with_reducible refine wpAny_execs_nil ?_
    with_reducible refine wpAny_execs_cons ?_
    with_reducible refine wpAny_Return_some ?_
    with_reducible refine wpAny_BinOp ?_
    with_reducible refine wpAny_BinOp ?_
    refine r_loc (by with_reducible assumption) (by rfl) ?_
    refine r_loc (by with_reducible assumption) (by rfl) ?_
    ((with_reducible refine x_mul (by first | exact IntMulOk.of_right (intBits_le_64 (by walk_at "m_n") (by walk_at "m_n")) | exact IntMulOk.of_left (intBits_le_64 (by walk_at "m_n") (by walk_at "m_n")) | exact mul_fits2 (by walk_at "m_n") (by walk_at "m_n") (by walk_at "m_n") (by walk_at "m_n")) ?_); intro _ _)
    with_reducible refine wpAny_BinOp ?_
    refine r_loc (by with_reducible assumption) (by rfl) ?_
    with_reducible refine wpAny_BinOp ?_
    with_reducible refine wpAny_BinOp ?_
    ((with_reducible refine x_int ?_); intro _ _)
    refine r_loc (by with_reducible assumption) (by rfl) ?_
    ((with_reducible refine x_mul (by first | exact IntMulOk.of_right (intBits_le_64 (by walk_at "m_n") (by walk_at "m_n")) | exact IntMulOk.of_left (intBits_le_64 (by walk_at "m_n") (by walk_at "m_n")) | exact mul_fits2 (by walk_at "m_n") (by walk_at "m_n") (by walk_at "m_n") (by walk_at "m_n")) ?_); intro _ _)
    ((with_reducible refine x_int ?_); intro _ _)
    ((with_reducible refine x_add ?_); intro _ _)
    ((with_reducible refine x_mod (by walk_at "m_n") ?_); intro _ _)
    ((with_reducible refine x_add ?_); intro _ _)
    skip
    have := Int.emod_nonneg lo (show 2 * (S : Int) + 1 ≠ 0 by walk_at "m_n")
    have := Int.emod_lt_of_pos lo (show 0 < 2 * (S : Int) + 1 by walk_at "m_n")
    exact fin _ (by walk_at "m_n") (by walk_at "m_n") _ _ _ (F.back0 (by with_reducible assumption))

/- what the law's text says -/
def Text (damage n : Nat) (cs : List Nat) : Prop := (damage ≤ 5 ∧ Dig cs ∧ cs ≠ [] ∧ dv cs = n) ∨ (5 < damage ∧ Bad cs)
theorem marks_at : ∀ i : Nat, i < 8 → ∃ c, (["-", "_", " ", "x", "+", ".", "/", ":"] : List Str).getD i Str.empty = Sx [c] ∧ c ∈ marks ∧ c < 128
  | 0, _ => ⟨45, by decide, by decide, by decide⟩
  | 1, _ => ⟨95, by decide, by decide, by decide⟩
  | 2, _ => ⟨32, by decide, by decide, by decide⟩
  | 3, _ => ⟨120, by decide, by decide, by decide⟩
  | 4, _ => ⟨43, by decide, by decide, by decide⟩
  | 5, _ => ⟨46, by decide, by decide, by decide⟩
  | 6, _ => ⟨47, by decide, by decide, by decide⟩
  | 7, _ => ⟨58, by decide, by decide, by decide⟩
  | _ + 8, q => absurd q (by walk_at "m_n")
theorem dig_ascii {cs : List Nat} (h : Dig cs) : cs.all (· < 128) = true := by
  rw [List.all_eq_true]; intro c hc; have := h c hc; exact decide_eq_true (by walk_at "m_n")
theorem law_text_c {n damage : Nat} {ni zi di mi place : Int} {u₁ u₂ u₃ u₄ u₅ : Tok} (F : Fm (Wx mg mb) h₀ L dl h m led) (hd : defAt pw 21 = some (nm, ps, bd, sc)) (hf : FnRef h₀ f (nm, ps, bd, sc)) (hn : ni = (n : Int)) (hnb : n < 100000000000000000000) (hz0 : 0 ≤ zi) (hz1 : zi < 6)
    (hdi : di = (damage : Int)) (hd7 : damage ≤ 7) (hm0 : 0 ≤ mi) (hm1 : mi < 8) (hA : Rm 1 A)
    (k : ∀ cs u h' t', Text damage n cs → cs.all (· < 128) = true → cs.length ≤ 100 → Fm (Wx mg mb) h₀ L dl h' m led → Q (.str (Sx cs) u) (St b h' t')) :
    wpAny (model prog w) A (call (.ref f) [.int ni u₁, .int zi u₂, .int di u₃, .int mi u₄, .int place u₅]) Q E (St b h t) := by
  cases hd
  subst hn; subst hdi
  refine r_enter F hf hA [("n", .int (n : Int) u₁), ("zeros", .int zi u₂), ("damage", .int (damage : Int) u₃), ("mark", .int mi u₄), ("place", .int place u₅)] [] trivial ?_
  intro L' h₁ t₁ code F₁
  obtain ⟨cs, hcs⟩ : ∃ cs, cs = List.replicate zi.toNat 48 ++ ts n := ⟨_, rfl⟩
  have htl := ts_len (n := n) (k := 20) (by decide) hnb
  have hcd : Dig cs := by rw [hcs]; exact dig_append.mpr ⟨dig_zeros _, ts_dig n⟩
  have hcv : dv cs = n := by rw [hcs, dv_append, dv_zeros, dv_ts]; simp
  have hcl : cs.length ≤ 30 := by rw [hcs, List.length_append, List.length_replicate]; walk_at "m_n"
  have hcn : cs ≠ [] := fun q => by rw [hcs] at q; exact ts_ne n (List.append_eq_nil_iff.mp q).2
  have hc0 : 0 < cs.length := List.length_pos_iff.mpr hcn
  refine execs_asg ?_
  with_reducible refine wpAny_BinOp ?_
  with_reducible refine wpAny_BinOp ?_
  ((with_reducible refine x_str ?_); intro _ _)
  refine r_loc (by with_reducible assumption) (by rfl) ?_
  skip
  refine x_zeros hz0 hz1 ?_
  intro u₆ t₆
  refine r_tcall bb_str (by with_reducible assumption) (by walk_at "m_mem") ?_
  refine args_loc (by with_reducible assumption) (by rfl) ?_
  with_reducible refine args_nil ?_
  refine x_strI rfl (by walk_at "m_n") ?_
  intro u₇ t₇
  skip
  refine x_addS rfl rfl (by rw [List.length_replicate]; walk_at "m_n") ?_
  rw [← hcs]
  intro u₈ t₈
  (refine r_store (by with_reducible assumption) ?_; intro _ _ _)
  refine execs_ifC ?_
  refine r_loc (by with_reducible assumption) (by rfl) ?_
  ((with_reducible refine x_int ?_); intro _ _)
  with_reducible refine P.eq_int ?_
  with_reducible refine wpAny_truthy_bool ?_
  rcases (by omega : damage ≤ 5 ∨ damage = 6 ∨ damage = 7) with h5 | rfl | rfl
  · with_reducible refine ite_beq (fun q => absurd q (by walk_at "m_n")) (fun _ => ?_)
    with_reducible refine wpAny_execs_nil ?_
    (refine x_ifNe (by with_reducible assumption) (by rfl) (by walk_at "m_n") ?_; intro _)
    with_reducible refine wpAny_execs_cons ?_
    with_reducible refine wpAny_Return_some ?_
    refine r_loc (by with_reducible assumption) (by rfl) ?_
    skip
    exact k cs _ _ _ (.inl ⟨h5, hcd, hcn, hcv⟩) (dig_ascii hcd) (by walk_at "m_n") (F.back0 (by with_reducible assumption))
  · have ha0 := Int.emod_nonneg place (show (cs.length : Int) ≠ 0 by walk_at "m_n")
    have ha1 := Int.emod_lt_of_pos place (show 0 < (cs.length : Int) by walk_at "m_n")
    have hmk := marks_at mi.toNat (by walk_at "m_n")
    have ht : (cs.take (place % (cs.length : Int)).toNat).length ≤ 30 := by rw [List.length_take]; exact Nat.le_trans (Nat.min_le_right _ _) hcl
    have hdl : (cs.drop (place % (cs.length : Int)).toNat).length ≤ 30 := by rw [List.length_drop]; exact Nat.le_trans (Nat.sub_le _ _) hcl
    with_reducible refine ite_beq (fun q => absurd q (by walk_at "m_n")) (fun _ => ?_)
    with_reducible refine wpAny_execs_nil ?_
    (refine x_ifEq (by with_reducible assumption) (by rfl) (by walk_at "m_n") ?_; intro _)
    refine execs_asg ?_
    with_reducible refine wpAny_BinOp ?_
    refine r_loc (by with_reducible assumption) (by rfl) ?_
    refine r_bcall bb_len (by with_reducible assumption) (by walk_at "m_mem") ?_
    refine args_loc (by with_reducible assumption) (by rfl) ?_
    with_reducible refine args_nil ?_
    (refine x_lenS (by walk_at "m_n") ?_; intro _ _)
    ((with_reducible refine x_mod (by walk_at "m_n") ?_); intro _ _)
    (refine r_store (by with_reducible assumption) ?_; intro _ _ _)
    with_reducible refine wpAny_execs_cons ?_
    with_reducible refine wpAny_Return_some ?_
    with_reducible refine wpAny_BinOp ?_
    with_reducible refine wpAny_BinOp ?_
    (refine x_uptoS (by with_reducible assumption) (by rfl) (by rfl) (by walk_at "m_n") (by walk_at "m_n") (by walk_at "m_n") ?_; intro _ _ _ _)
    refine Subscript_ ?_
    (refine r_stab (by with_reducible assumption) (by walk_at "m_mem") ?_; intro _ _ _ _)
    refine r_loc (by with_reducible assumption) (by rfl) ?_
    skip
    refine x_itemTS (by with_reducible assumption) (by with_reducible assumption) (by walk_at "m_n") (by simp only [List.length_cons, List.length_nil]; walk_at "m_n") (by walk_at "m_n") ?_
    intro u₉
    obtain ⟨c, hc1, hc2, hc3⟩ := hmk
    refine x_addS rfl hc1 (Nat.le_trans (Nat.add_le_add ht (Nat.le_refl 1)) (by decide)) ?_
    intro u₁₀ t₁₀
    (refine x_fromS (by with_reducible assumption) (by rfl) (by rfl) (by walk_at "m_n") (by walk_at "m_n") (by walk_at "m_n") ?_; intro _ _ _ _)
    refine x_addS rfl rfl (by rw [List.length_append]; exact Nat.le_trans (Nat.add_le_add (Nat.add_le_add ht (Nat.le_refl 1)) hdl) (by decide)) ?_
    intro u₁₁ t₁₁
    skip
    have htk : (cs.take (place % (cs.length : Int)).toNat).length = (place % (cs.length : Int)).toNat := by rw [List.length_take]; walk_at "m_n"
    refine k _ _ _ _ (.inr ⟨by decide, .inr ⟨(place % (cs.length : Int)).toNat, c, ?_, hc2, ?_⟩⟩) ?_ ?_ (F.back0 (by with_reducible assumption))
    · rw [List.append_assoc, List.getElem?_append_right (by walk_at "m_n"), htk]; simp
    · rw [List.append_assoc, List.take_append_of_le_length (by walk_at "m_n"), List.take_of_length_le (by walk_at "m_n")]
      exact fun d hd => hcd d (List.mem_of_mem_take hd)
    · rw [List.all_append, List.all_append, dig_ascii (fun d hd => hcd d (List.mem_of_mem_take hd)), dig_ascii (fun d hd => hcd d (List.mem_of_mem_drop hd))]
      simpa using hc3
    · rw [List.length_append, List.length_append]; exact Nat.le_trans (Nat.add_le_add (Nat.add_le_add ht (Nat.le_refl 1)) hdl) (by decide)
  · with_reducible refine ite_beq (fun _ => ?_) (fun q => absurd (by walk_at "m_n") q)
    with_reducible refine wpAny_execs_cons ?_
    with_reducible refine wpAny_Return_some ?_
    ((with_reducible refine x_str ?_); intro _ _)
    skip
    exact k [] _ _ _ (.inr ⟨by decide, .inl rfl⟩) rfl (by decide) (F.back0 (by with_reducible assumption))

theorem law_root_c {n : Nat} {i : Int} {u : Tok} (F : Fm (Wx mg mb) h₀ L dl h m led) (hd : defAt pw 22 = some (nm, ps, bd, sc)) (hf : FnRef h₀ f (nm, ps, bd, sc)) (hi : i = (n : Int)) (hn : n < 18014398509481984) (hA : Rm 1 A)
    (k : ∀ (r : Nat) u h' t', IsRoot n r → Fm (Wx mg mb) h₀ L dl h' m led → Q (.int (r : Int) u) (St b h' t')) :
    wpAny (model prog w) A (call (.ref f) [.int i u]) Q E (St b h t) := by
  cases hd
  subst hi
  refine r_enter F hf hA [("n", .int (n : Int) u)] [] trivial ?_
  intro L' h₁ t₁ code F₁
  have hh := hA.hd
  refine execs_asg ?_
  ((with_reducible refine x_int ?_); intro _ _)
  (refine r_store (by with_reducible assumption) ?_; intro _ _ _)
  with_reducible refine wpAny_execs_cons ?_
  refine wpAny_For ?_
  refine r_tcall bb_range (by with_reducible assumption) (by walk_at "m_mem") ?_
  refine args_cons ?_
  ((with_reducible refine x_int ?_); intro _ _)
  with_reducible refine args_nil ?_
  (refine x_range1 (by with_reducible assumption) ?_; intro _ _ _ _ _ _ _)
  refine r_up 27 (by walk_at "m_n") (by assumption) (by walk_at "m_mem") (by rfl) hh (σ := Nat × Tok) (fun _ => none) (fun c => [("found", .int (c.1 : Int) c.2), ("n", .int (n : Int) u)]) (fun _ => []) []
    (fun i c => RootJ n i c.1) (0, _) rfl (by walk_at "m_Sub") (by walk_at "m_sub") (fun _ _ q => nomatch q) (RootJ.start hn) ?_ ?_
  · rintro j ⟨v, u₂⟩ u' h₂ t₂ o I E' hj hJ F₂
    dsimp only [List.nil_append, List.cons_append] at hJ F₂ ⊢
    have hv := RootJ.small hJ hn
    obtain ⟨s, hs⟩ : ∃ s : Nat, s = 2 ^ (26 - j) := ⟨_, rfl⟩
    have hs1 : s ≤ 67108864 := by rw [hs]; exact two_small
    have hs2 : (2 : Int) ^ (26 - (j : Int)).toNat = (s : Int) := by rw [hs, Int.natCast_pow, show (26 - (j : Int)).toNat = 26 - j by walk_at "m_n"]; rfl
    have sq : ((v : Int) + (s : Int)) * ((v : Int) + (s : Int)) = (((v + s) * (v + s) : Nat) : Int) := by rw [Int.natCast_mul, Int.natCast_add]
    refine execs_asg ?_
    with_reducible refine wpAny_BinOp ?_
    ((with_reducible refine x_int ?_); intro _ _)
    with_reducible refine wpAny_BinOp ?_
    ((with_reducible refine x_int ?_); intro _ _)
    refine r_loc (by with_reducible assumption) (by rfl) ?_
    ((with_reducible refine x_sub ?_); intro _ _)
    ((with_reducible refine x_pow (by walk_at "m_n") (pow_fits (by walk_at "m_n") (by walk_at "m_n") (by walk_at "m_n") (by walk_at "m_n")) ?_); intro _ _)
    (refine r_store (by with_reducible assumption) ?_; intro _ _ _)
    refine execs_ifC ?_
    with_reducible refine wpAny_BinOp ?_
    with_reducible refine wpAny_BinOp ?_
    refine r_loc (by with_reducible assumption) (by rfl) ?_
    refine r_loc (by with_reducible assumption) (by rfl) ?_
    ((with_reducible refine x_add ?_); intro _ _)
    with_reducible refine wpAny_BinOp ?_
    refine r_loc (by with_reducible assumption) (by rfl) ?_
    refine r_loc (by with_reducible assumption) (by rfl) ?_
    ((with_reducible refine x_add ?_); intro _ _)
    ((with_reducible refine x_mul (by first | exact IntMulOk.of_right (intBits_le_64 (by walk_at "m_n") (by walk_at "m_n")) | exact IntMulOk.of_left (intBits_le_64 (by walk_at "m_n") (by walk_at "m_n")) | exact mul_fits2 (by walk_at "m_n") (by walk_at "m_n") (by walk_at "m_n") (by walk_at "m_n")) ?_); intro _ _)
    refine r_loc (by with_reducible assumption) (by rfl) ?_
    with_reducible refine P.le_int ?_
    with_reducible refine wpAny_truthy_bool ?_
    refine ite_dec (fun q1 => ?_) (fun q1 => ?_)
    · rw [hs2, sq] at q1
      refine execs_asg ?_
      with_reducible refine wpAny_BinOp ?_
      refine r_loc (by with_reducible assumption) (by rfl) ?_
      refine r_loc (by with_reducible assumption) (by rfl) ?_
      ((with_reducible refine x_add ?_); intro _ _)
      (refine r_store (by with_reducible assumption) ?_; intro _ _ _)
      with_reducible refine wpAny_execs_nil ?_
      with_reducible refine wpAny_execs_nil ?_
      rename_i F₃
      rw [hs2] at F₃
      refine turn_next (v + s, _) F₃ rfl ⟨by rw [Int.natCast_add]; rfl, by walk_at "m_Sub"⟩ (by walk_at "m_sub") ?_
      show RootJ n (j + 1) (v + s)
      rw [hs]
      exact RootJ.up hJ hj (by rw [← hs]; walk_at "m_n")
    · rw [hs2, sq] at q1
      with_reducible refine wpAny_execs_nil ?_
      with_reducible refine wpAny_execs_nil ?_
      refine turn_next (v, _) (by assumption) rfl (by walk_at "m_Sub") (by walk_at "m_sub") ?_
      exact RootJ.stay (f := v) hJ (by rw [← hs]; walk_at "m_n")
  · rintro ⟨v, u₂⟩ h₂ t₂ hJ F₂
    dsimp only [List.nil_append, List.cons_append] at hJ F₂ ⊢
    with_reducible refine wpAny_execs_cons ?_
    with_reducible refine wpAny_Return_some ?_
    refine r_loc (by with_reducible assumption) (by rfl) ?_
    skip
    exact k v _ _ _ (RootJ.fin hJ) (F.back0 F₂)

theorem law_limbs_c {i : Int} {n : Nat} {u : Tok} (F : Fm (Wx mg mb) h₀ L dl h m led) (hd : defAt pw 23 = some (nm, ps, bd, sc)) (hf : FnRef h₀ f (nm, ps, bd, sc)) (hi : i = (n : Int)) (hn : n < 1000000000000000000000000) (hA : Rm 1 A)
    (k : ∀ r h' t', Fm (Wx mg mb) h₀ L dl h' m ((r, .kP (dg n), true) :: led) → Q (.ref r) (St b h' t')) :
    wpAny (model prog w) A (call (.ref f) [.int i u]) Q E (St b h t) := by
  cases hd
  subst hi
  refine r_enter F hf hA [("n", .int (n : Int) u)] [] trivial ?_
  intro L' h₁ t₁ code F₁
  have hh := hA.hd
  have hlen : (dg n).length ≤ 6 := dg_len_le (by have : (10000 : Int) ^ 6 = 1000000000000000000000000 := by decide
                                                 omega)
  refine execs_asg ?_
  with_reducible refine List_ ?_
  with_reducible refine args_nil ?_
  skip
  refine x_newListD (by assumption) .nil (by decide) ?_
  intro D h₂ F₂
  (refine r_store (by with_reducible assumption) ?_; intro _ _ _)
  with_reducible refine wpAny_execs_cons ?_
  refine wpAny_For ?_
  refine r_tcall bb_range (by with_reducible assumption) (by walk_at "m_mem") ?_
  refine args_cons ?_
  ((with_reducible refine x_int ?_); intro _ _)
  with_reducible refine args_nil ?_
  (refine x_range1 (by with_reducible assumption) ?_; intro _ _ _ _ _ _ _)
  refine r_up 6 (by walk_at "m_n") (by assumption) (by walk_at "m_mem") (by rfl) hh (σ := List Int) (fun c => some (D, .kP c)) (fun c => [("out", .ref D), ("n", .int (n : Int) u)]) (fun _ => []) []
    (fun i c => c = (dg n).take i) [] rfl (by walk_at "m_Sub") (by walk_at "m_sub") (fun _ _ q => nomatch q) rfl ?_ ?_
  · rintro j c u' h₂ t₂ o I E' hj hJ F₂
    dsimp only [List.nil_append, List.cons_append] at hJ F₂ ⊢
    subst hJ
    have hl : ((dg n).take j).length ≤ 9 := by rw [List.length_take]; walk_at "m_n"
    have hp := pw_pos (j : Int).toNat
    have hc : ((10000 ^ j : Nat) : Int) = 10000 ^ (j : Int).toNat := by rw [Int.natCast_pow, Int.toNat_natCast]; rfl
    refine execs_ifC ?_
    refine r_loc (by with_reducible assumption) (by rfl) ?_
    with_reducible refine wpAny_BinOp ?_
    ((with_reducible refine x_int ?_); intro _ _)
    refine r_loc (by with_reducible assumption) (by rfl) ?_
    ((with_reducible refine x_pow (by walk_at "m_n") (pow_fits (by walk_at "m_n") (by walk_at "m_n") (by walk_at "m_n") (by walk_at "m_n")) ?_); intro _ _)
    with_reducible refine P.ge_int ?_
    with_reducible refine wpAny_truthy_bool ?_
    refine ite_dec (fun q1 => ?_) (fun q1 => ?_)
    · with_reducible refine wpAny_execs_cons ?_
      refine wpAny_Expr_any ?_
      refine x_appendCall (by with_reducible assumption) (by rfl) ?_
      with_reducible refine wpAny_BinOp ?_
      with_reducible refine wpAny_BinOp ?_
      refine r_loc (by with_reducible assumption) (by rfl) ?_
      with_reducible refine wpAny_BinOp ?_
      ((with_reducible refine x_int ?_); intro _ _)
      refine r_loc (by with_reducible assumption) (by rfl) ?_
      ((with_reducible refine x_pow (by walk_at "m_n") (pow_fits (by walk_at "m_n") (by walk_at "m_n") (by walk_at "m_n") (by walk_at "m_n")) ?_); intro _ _)
      ((with_reducible refine x_div (by walk_at "m_n") (by walk_at "m_n") ?_); intro _ _)
      ((with_reducible refine x_int ?_); intro _ _)
      ((with_reducible refine x_mod (by walk_at "m_n") ?_); intro _ _)
      (refine x_append (by with_reducible assumption) (by walk_at "m_n") ?_; intro _ _)
      with_reducible refine wpAny_execs_nil ?_
      with_reducible refine wpAny_execs_nil ?_
      refine turn_next _ (by assumption) rfl (by walk_at "m_Sub") (by walk_at "m_sub") ?_
      try dsimp only
      rw [← limb_step (by walk_at "m_n"), ← hc]; rfl
    · with_reducible refine wpAny_execs_nil ?_
      with_reducible refine wpAny_execs_nil ?_
      refine turn_next _ (by assumption) rfl (by walk_at "m_Sub") (by walk_at "m_sub") ?_
      exact limb_stay (by walk_at "m_n")
  · rintro c h₂ t₂ hJ F₂
    dsimp only [List.nil_append, List.cons_append] at hJ F₂ ⊢
    rw [List.take_of_length_le hlen] at hJ
    subst hJ
    with_reducible refine wpAny_execs_cons ?_
    with_reducible refine wpAny_Return_some ?_
    refine r_loc (by with_reducible assumption) (by rfl) ?_
    skip
    exact k D _ _ (F.back F₂.unD (by walk_at "m_mem"))

theorem law_same_c {i : Int} {n : Nat} {u : Tok} (F : Fm (Wx mg mb) h₀ L dl h m led) (hd : defAt pw 24 = some (nm, ps, bd, sc)) (hf : FnRef h₀ f (nm, ps, bd, sc)) (hx : Is h a (.kI (dg n))) (hi : i = (n : Int)) (hn : n < 1000000000000000000000000) (hA : Rm 2 A)
    (k : ∀ h' t', Fm (Wx mg mb) h₀ L dl h' m led → Q (.bool true) (St b h' t')) :
    wpAny (model prog w) A (call (.ref f) [.ref a, .int i u]) Q E (St b h t) := by
  cases hd
  subst hi
  refine r_enter F hf (hA.le (by walk_at "m_n")) [("got", .ref a), ("n", .int (n : Int) u)] [(a, .kI (dg n), false)] ⟨⟨hx, rfl⟩, trivial⟩ ?_
  intro L' h₁ t₁ code F₁
  have hh := hA.hd
  with_reducible refine wpAny_execs_cons ?_
  with_reducible refine wpAny_If ?_
  with_reducible refine wpAny_isTrue_Not ?_
  refine wpAny_isTrue_Compare1 ?_
  refine r_tcall bb_type (by with_reducible assumption) (by walk_at "m_mem") ?_
  refine args_loc (by with_reducible assumption) (by rfl) ?_
  with_reducible refine args_nil ?_
  refine x_typeL (by walk_at "m_has") ?_
  refine r_bi (by with_reducible assumption) (by walk_at "m_mem") bb_list ?_
  refine x_isT (c := true) (by decide) ?_
  with_reducible refine wpAny_truthy_bool ?_
  with_reducible refine ite_nt ?_
  with_reducible refine wpAny_execs_nil ?_
  refine execs_ifC ?_
  refine r_loc (by with_reducible assumption) (by rfl) ?_
  (refine r_callL1 (by with_reducible assumption) (by rfl) (by rfl) (by rfl) ?_; intro _ _)
  skip
  refine ⟨Fm.keep (by with_reducible assumption), law_limbs_c (by with_reducible assumption) (by rfl) (by assumption) rfl hn hA.deeper ?_⟩
  intro r h₂ t₂ F₂
  skip
  refine x_neQ (ns := dg n) (by walk_at "m_has") (by walk_at "m_has") hA.deeper.u ?_
  with_reducible refine wpAny_truthy_bool ?_
  with_reducible refine ite_f ?_
  with_reducible refine wpAny_execs_nil ?_
  with_reducible refine wpAny_execs_cons ?_
  refine wpAny_For ?_
  refine r_loc (by with_reducible assumption) (by rfl) ?_
  refine r_list (by with_reducible assumption) (by walk_at "m_mem") hh (σ := Unit) (fun _ => none) (fun _ => []) (fun _ => []) [] (fun _ _ => True) () rfl trivial (by walk_at "m_sub") (fun _ _ q => nomatch q) trivial ?_ ?_
  · rintro j c u' h₃ t₃ o I oX E' hj hJ F₃
    dsimp only [List.nil_append, List.cons_append] at F₃ ⊢
    with_reducible refine wpAny_execs_cons ?_
    with_reducible refine wpAny_If ?_
    with_reducible refine wpAny_isTrue_Not ?_
    refine wpAny_isTrue_Compare1 ?_
    refine r_tcall bb_type (by with_reducible assumption) (by walk_at "m_mem") ?_
    refine args_loc (by with_reducible assumption) (by rfl) ?_
    with_reducible refine args_nil ?_
    with_reducible refine x_typeI ?_
    refine r_bi (by with_reducible assumption) (by walk_at "m_mem") bb_int ?_
    refine x_isT (c := true) (by decide) ?_
    with_reducible refine wpAny_truthy_bool ?_
    with_reducible refine ite_nt ?_
    with_reducible refine wpAny_execs_nil ?_
    with_reducible refine wpAny_execs_nil ?_
    exact turn_next () (by assumption) rfl (by walk_at "m_Sub") (by walk_at "m_sub") trivial
  · rintro c h₃ t₃ hJ F₃
    with_reducible refine wpAny_execs_cons ?_
    with_reducible refine wpAny_Return_some ?_
    with_reducible refine x_bool ?_
    skip
    exact k _ _ (F.back0 (by with_reducible assumption))

theorem law_says_c {i : Int} {n : Nat} {u : Tok} (F : Fm (Wx mg mb) h₀ L dl h m led) (hd : defAt pw 25 = some (nm, ps, bd, sc)) (hf : FnRef h₀ f (nm, ps, bd, sc)) (hx : Is h a (.kI (dg n))) (hi : i = (n : Int)) (hn : n < 1000000000000000000000000) (hA : Rm 2 A)
    (k : ∀ h' t', Fm (Wx mg mb) h₀ L dl h' m led → Q (.bool true) (St b h' t')) :
    wpAny (model prog w) A (call (.ref f) [.ref a, .int i u]) Q E (St b h t) := by
  cases hd
  subst hi
  refine r_enter F hf (hA.le (by walk_at "m_n")) [("a", .ref a), ("n", .int (n : Int) u)] [(a, .kI (dg n), false)] ⟨⟨hx, rfl⟩, trivial⟩ ?_
  intro L' h₁ t₁ code F₁
  refine execs_asg ?_
  (refine r_callL1 (by with_reducible assumption) (by rfl) (by rfl) (by rfl) ?_; intro _ _)
  skip
  refine ⟨Fm.keep (by with_reducible assumption), to_decimal_c (by with_reducible assumption) (by rfl) (by assumption) (n := n) (by walk_at "m_has") (by walk_at "m_n") hA.deeper ?_⟩
  intro u₂ h₂ t₂ F₂
  (refine r_store (by with_reducible assumption) ?_; intro _ _ _)
  with_reducible refine wpAny_execs_cons ?_
  with_reducible refine wpAny_If ?_
  with_reducible refine wpAny_isTrue_Not ?_
  refine wpAny_isTrue_Compare1 ?_
  refine r_tcall bb_type (by with_reducible assumption) (by walk_at "m_mem") ?_
  refine args_loc (by with_reducible assumption) (by rfl) ?_
  with_reducible refine args_nil ?_
  with_reducible refine x_typeS ?_
  refine r_bi (by with_reducible assumption) (by walk_at "m_mem") bb_str ?_
  refine x_isT (c := true) (by decide) ?_
  with_reducible refine wpAny_truthy_bool ?_
  with_reducible refine ite_nt ?_
  with_reducible refine wpAny_execs_nil ?_
  refine execs_ifC ?_
  refine r_loc (by with_reducible assumption) (by rfl) ?_
  refine r_tcall bb_str (by with_reducible assumption) (by walk_at "m_mem") ?_
  refine args_loc (by with_reducible assumption) (by rfl) ?_
  with_reducible refine args_nil ?_
  refine x_strI rfl (by walk_at "m_n") ?_
  intro u₃ t₃
  skip
  refine x_neS rfl ?_
  with_reducible refine wpAny_truthy_bool ?_
  with_reducible refine ite_f ?_
  with_reducible refine wpAny_execs_nil ?_
  with_reducible refine wpAny_execs_cons ?_
  with_reducible refine wpAny_Return_some ?_
  with_reducible refine x_bool ?_
  skip
  exact k _ _ (F.back0 (by with_reducible assumption))

theorem law_order_c {i : Int} {x y : Nat} {u : Tok} (F : Fm (Wx mg mb) h₀ L dl h m led) (hd : defAt pw 26 = some (nm, ps, bd, sc)) (hf : FnRef h₀ f (nm, ps, bd, sc)) (hx : Is h a (.kI (dg x))) (hy : Is h a' (.kI (dg y))) (hi : cmpI x y = i) (hnx : (dg x).length ≤ 100) (hny : (dg y).length ≤ 100) (hA : Rm 2 A)
    (k : ∀ h' t', Fm (Wx mg mb) h₀ L dl h' m led → Q (.bool true) (St b h' t')) :
    wpAny (model prog w) A (call (.ref f) [.ref a, .ref a', .int i u]) Q E (St b h t) := by
  cases hd
  refine r_enter F hf (hA.le (by walk_at "m_n")) [("a", .ref a), ("b", .ref a'), ("due", .int i u)] [(a, .kI (dg x), false), (a', .kI (dg y), false)] ⟨⟨hx, rfl⟩, ⟨hy, rfl⟩, trivial⟩ ?_
  intro L' h₁ t₁ code F₁
  refine execs_asg ?_
  (refine r_callL2 (by with_reducible assumption) (by rfl) (by rfl) (by rfl) (by rfl) ?_; intro _ _)
  skip
  refine ⟨Fm.keep (by with_reducible assumption), compare_c (by with_reducible assumption) (by rfl) (by assumption) (x := x) (by walk_at "m_has") (y := y) (by walk_at "m_has") (by walk_at "m_n") (by walk_at "m_n") hA.deeper ?_⟩
  intro u₂ h₂ t₂ F₂
  (refine r_store (by with_reducible assumption) ?_; intro _ _ _)
  with_reducible refine wpAny_execs_cons ?_
  with_reducible refine wpAny_If ?_
  with_reducible refine wpAny_isTrue_Not ?_
  refine wpAny_isTrue_Compare1 ?_
  refine r_tcall bb_type (by with_reducible assumption) (by walk_at "m_mem") ?_
  refine args_loc (by with_reducible assumption) (by rfl) ?_
  with_reducible refine args_nil ?_
  with_reducible refine x_typeI ?_
  refine r_bi (by with_reducible assumption) (by walk_at "m_mem") bb_int ?_
  refine x_isT (c := true) (by decide) ?_
  with_reducible refine wpAny_truthy_bool ?_
  with_reducible refine ite_nt ?_
  with_reducible refine wpAny_execs_nil ?_
  refine execs_ifC ?_
  refine r_loc (by with_reducible assumption) (by rfl) ?_
  refine r_loc (by with_reducible assumption) (by rfl) ?_
  with_reducible refine P.ne_int ?_
  with_reducible refine wpAny_truthy_bool ?_
  refine ite_bne (fun q => absurd hi q) (fun _ => ?_)
  with_reducible refine wpAny_execs_nil ?_
  with_reducible refine wpAny_execs_cons ?_
  with_reducible refine wpAny_Return_some ?_
  with_reducible refine x_bool ?_
  skip
  exact k _ _ (F.back0 (by with_reducible assumption))

theorem law_parts_c {i j : Int} {n v : Nat} {q q' : Addr} {u u' : Tok} (F : Fm (Wx mg mb) h₀ L dl h m led) (hd : defAt pw 30 = some (nm, ps, bd, sc)) (hf : FnRef h₀ f (nm, ps, bd, sc)) (hx : Is h a (.kT [.ref q, .ref q'])) (hq : Is h q (.kI (dg (n / v)))) (hq' : Is h q' (.kI (dg (n % v)))) (hi : i = (n : Int)) (hj : j = (v : Int)) (hv : 0 < v) (hn : n < 1000000000000000000000000) (hvn : v < 1000000000000000000000000) (hA : Rm 3 A)
    (k : ∀ h' t', Fm (Wx mg mb) h₀ L dl h' m led → Q (.bool true) (St b h' t')) :
    wpAny (model prog w) A (call (.ref f) [.ref a, .int i u, .int j u']) Q E (St b h t) := by
  cases hd
  subst hi; subst hj
  refine r_enter F hf (hA.le (by walk_at "m_n")) [("parts", .ref a), ("n", .int (n : Int) u), ("want", .int (v : Int) u')] [(a, .kT [.ref q, .ref q'], false), (q, .kI (dg (n / v)), false), (q', .kI (dg (n % v)), false)] ⟨⟨hx, rfl⟩, ⟨hq, rfl⟩, ⟨hq', rfl⟩, trivial⟩ ?_
  intro L' h₁ t₁ code F₁
  have h1 := Nat.div_le_self n v
  have h2 := Nat.mod_lt n hv
  (refine x_ifNe (by with_reducible assumption) (by rfl) (by walk_at "m_n") ?_; intro _)
  with_reducible refine wpAny_execs_cons ?_
  with_reducible refine wpAny_If ?_
  with_reducible refine wpAny_isTrue_Not ?_
  refine wpAny_isTrue_Compare1 ?_
  refine r_tcall bb_type (by with_reducible assumption) (by walk_at "m_mem") ?_
  refine args_loc (by with_reducible assumption) (by rfl) ?_
  with_reducible refine args_nil ?_
  refine x_typeT (by walk_at "m_has") ?_
  refine r_bi (by with_reducible assumption) (by walk_at "m_mem") bb_tuple ?_
  refine x_isT (c := true) (by decide) ?_
  with_reducible refine wpAny_truthy_bool ?_
  with_reducible refine ite_nt ?_
  with_reducible refine wpAny_execs_nil ?_
  refine execs_ifC ?_
  refine r_bcall bb_len (by with_reducible assumption) (by walk_at "m_mem") ?_
  refine args_loc (by with_reducible assumption) (by rfl) ?_
  with_reducible refine args_nil ?_
  (refine x_lenT (by walk_at "m_has") ?_; intro _ _)
  ((with_reducible refine x_int ?_); intro _ _)
  with_reducible refine P.ne_int ?_
  with_reducible refine wpAny_truthy_bool ?_
  with_reducible refine ite_bne (fun q => absurd (by walk_at "m_n") q) (fun _ => ?_)
  with_reducible refine wpAny_execs_nil ?_
  refine execs_ifN ?_
  (refine r_callN (by with_reducible assumption) (by rfl) (by rfl) ?_; intro _ _)
  refine args_cons ?_
  refine Subscript_ ?_
  refine r_loc (by with_reducible assumption) (by rfl) ?_
  ((with_reducible refine x_int ?_); intro _ _)
  refine x_itemW (by walk_at "m_has") (by rfl) (by rfl) (by decide) (by decide) ?_
  refine args_cons ?_
  with_reducible refine wpAny_BinOp ?_
  refine r_loc (by with_reducible assumption) (by rfl) ?_
  refine r_loc (by with_reducible assumption) (by rfl) ?_
  ((with_reducible refine x_div (by walk_at "m_n") (by walk_at "m_n") ?_); intro _ _)
  with_reducible refine args_nil ?_
  skip
  refine ⟨Fm.keep (by with_reducible assumption), law_same_c (by with_reducible assumption) (by rfl) (by assumption) (n := n / v) (by walk_at "m_has") rfl (by walk_at "m_n") hA.deeper ?_⟩
  intro h₂ t₂ F₂
  with_reducible refine wpAny_truthy_bool ?_
  with_reducible refine ite_nt ?_
  with_reducible refine wpAny_execs_nil ?_
  refine execs_ifN ?_
  (refine r_callN (by with_reducible assumption) (by rfl) (by rfl) ?_; intro _ _)
  refine args_cons ?_
  refine Subscript_ ?_
  refine r_loc (by with_reducible assumption) (by rfl) ?_
  ((with_reducible refine x_int ?_); intro _ _)
  refine x_itemW (by walk_at "m_has") (by rfl) (by rfl) (by decide) (by decide) ?_
  refine args_cons ?_
  with_reducible refine wpAny_BinOp ?_
  refine r_loc (by with_reducible assumption) (by rfl) ?_
  refine r_loc (by with_reducible assumption) (by rfl) ?_
  ((with_reducible refine x_mod (by walk_at "m_n") ?_); intro _ _)
  with_reducible refine args_nil ?_
  skip
  refine ⟨Fm.keep (by with_reducible assumption), law_same_c (by with_reducible assumption) (by rfl) (by assumption) (n := n % v) (by walk_at "m_has") rfl (by walk_at "m_n") hA.deeper ?_⟩
  intro h₃ t₃ F₃
  with_reducible refine wpAny_truthy_bool ?_
  with_reducible refine ite_nt ?_
  with_reducible refine wpAny_execs_nil ?_
  with_reducible refine wpAny_execs_cons ?_
  with_reducible refine wpAny_Return_some ?_
  with_reducible refine x_bool ?_
  skip
  exact k _ _ (F.back0 (by with_reducible assumption))

theorem law_parts_r {i : Int} {u u' u'' : Tok} (F : Fm (Wx mg mb) h₀ L dl h m led) (hd : defAt pw 30 = some (nm, ps, bd, sc)) (hf : FnRef h₀ f (nm, ps, bd, sc)) (hA : Rm 1 A)
    (k : ∀ h' t', Fm (Wx mg mb) h₀ L dl h' m led → Q (.bool true) (St b h' t')) :
    wpAny (model prog w) A (call (.ref f) [.str "refused" u, .int i u', .int 0 u'']) Q E (St b h t) := by
  cases hd
  refine r_enter F hf hA [("parts", .str "refused" u), ("n", .int i u'), ("want", .int 0 u'')] [] trivial ?_
  intro L' h₁ t₁ code F₁
  (refine x_ifEq (by with_reducible assumption) (by rfl) (by walk_at "m_n") ?_; intro _)
  refine execs_ifC ?_
  refine r_loc (by with_reducible assumption) (by rfl) ?_
  ((with_reducible refine x_str ?_); intro _ _)
  refine x_neS rfl ?_
  with_reducible refine wpAny_truthy_bool ?_
  with_reducible refine ite_f ?_
  with_reducible refine wpAny_execs_nil ?_
  with_reducible refine wpAny_execs_cons ?_
  with_reducible refine wpAny_Return_some ?_
  with_reducible refine x_bool ?_
  skip
  exact k _ _ (F.back0 (by with_reducible assumption))
end
section
variable {mg mb : Str → Option Value} {prog : Program} {w : World} {A : Around} {E : Value → Shared → Prop} {b : Shared} {h₀ h : Heap} {L a a' f : Addr} {dl : Option (Addr × Kd)} {t : Nat}
  {m : List (Str × Value)} {led : List Ent} {Q : Value → Shared → Prop} {nm : Str} {ps : Arguments} {bd : List Stmt} {sc : Scope}

structure Kept (p : Prop) : Prop where
  out : p
theorem dg_one : ([1] : List Int) = dg 1 := by rw [dg_pos (by decide), dg_zero]; rfl
theorem sq_next (R : Nat) : 1 + (R * R + (R + R)) = (R + 1) * (R + 1) := by rw [Nat.mul_add, Nat.add_mul]; walk_at "m_n"
theorem len_small {n : Nat} (h : n < 1000000000000000000000000) : (dg n).length ≤ 6 := dg_len_le (by rw [show (10000 : Int) ^ 6 = 1000000000000000000000000 by decide]; walk_at "m_n")
/- the answer of a division -/
def Parts (x y : Nat) : Rs → Prop
  | .tup _ ps => 0 < y ∧ ∃ q q', ps = [.li q (dg (x / y)), .li q' (dg (x % y))]
  | .no s _ => y = 0 ∧ s = "refused"
theorem law_parts_R {R : Rs} {i j : Int} {n v : Nat} {u u' : Tok} (F : Fm (Wx mg mb) h₀ L dl h m led) (hd : defAt pw 30 = some (nm, ps, bd, sc)) (hf : FnRef h₀ f (nm, ps, bd, sc)) (hR : Parts n v R) (hx : ∀ q ∈ R.ents, Is h q.1 q.2.1) (hi : i = (n : Int)) (hj : j = (v : Int)) (hn : n < 1000000000000000000000000) (hvn : v < 1000000000000000000000000) (hA : Rm 3 A)
    (k : ∀ h' t', Fm (Wx mg mb) h₀ L dl h' m led → Q (.bool true) (St b h' t')) :
    wpAny (model prog w) A (call (.ref f) [R.val, .int i u, .int j u']) Q E (St b h t) := by
  cases R with
  | tup r ps' =>
    obtain ⟨hv, q, q', rfl⟩ := hR
    exact law_parts_c F hd hf (hx _ (.head _)) (hx (q, .kP (dg (n / v)), true) (.tail _ (.head _))).pl_ints (hx (q', .kP (dg (n % v)), true) (.tail _ (.tail _ (.head _)))).pl_ints hi hj hv hn hvn hA k
  | no x u =>
    obtain ⟨rfl, rfl⟩ := hR
    subst hj
    exact law_parts_r F hd hf (hA.le (by decide)) k
variable {outer : List Env} {cn : Str} {cs : Scope} {ca : Addr} {ccd : Value}
theorem law_divide_R {x y : Nat} {K K' : Kd} {n n' : Bool} (F : Fm (Wx mg mb) h₀ L none h m led) (S : Stk A outer led) (hd : defAt pw 29 = some (nm, ps, bd, sc)) (hf : FnRef h₀ f (nm, ps, bd, sc))
    (hx : (a, K, n) ∈ led) (hK : ∀ h, Is h a K → Is h a (.kI (dg x))) (hy : (a', K', n') ∈ led) (hK' : ∀ h, Is h a' K' → Is h a' (.kI (dg y)))
    (hnx : (dg x).length ≤ 3000) (hny : (dg y).length ≤ 3000) (hck : cs.kind = .function) (hA : Rm 5 (A.deeper (envOf cn cs L ca ccd)))
    (k : ∀ (R : Rs) h' t', Parts x y R → Fm (Wx mg mb) h₀ L none h' m (R.ents ++ led) → Q R.val (St b h' t')) :
    wpAny (model prog w) (A.deeper (envOf cn cs L ca ccd)) (call (.ref f) [.ref a, .ref a']) Q E (St b h t) :=
  law_divide_c F S hd hf hx hK hy hK' hnx hny hck hA (fun r q q' h' t' hy F' => k (.tup r [.li q _, .li q' _]) h' t' ⟨hy, q, q', rfl⟩ F') (fun u h' t' hy F' => k (.no "refused" u) h' t' ⟨hy, rfl⟩ F')

theorem law_tail2 {l rn rs rr rq rf : Addr} {cd : Value} {xs : List Int} {B N R : Nat} {D : Int} {ub un uw ud : Tok} {Q : Flow → Shared → Prop}
    (F : Fm (Wx mg mb) h₀ L none h [("due", .int D ud), ("following", .ref rf), ("square", .ref rq), ("root", .ref rr), ("scaled", .ref rs), ("want", .int (R : Int) uw), ("n", .int (N : Int) un), ("number", .ref rn), ("base", .int (B : Int) ub), ("script", .ref l)]
      [(rf, .kP (dg ((R + 1) * (R + 1))), true), (rq, .kP (dg (R * R)), true), (rr, .kP (dg R), true), (rs, .kP (dg N), true), (rn, .kP (dg B), true), (l, .kI xs, false)])
    (hxs : 9 ≤ xs.length ∧ xs.length ≤ 63) (hB : B < 100000000000000000) (hN : N < 100000000000000000) (hR : IsRoot N R) (hRb : R < 134217728) (hD : cmpI (R * R) N = D) (hd : defAt pw 31 = some (nm, ps, bd, sc))
    (k : ∀ h' t', Stays h₀ h' → Q (.ret (.bool true)) (St b h' t')) :
    wpAny (model prog w) (callerA.deeper (envOf nm sc L a cd)) (execs (restOf 21 (restOf 6 bd)) (envOf nm sc L a cd)) Q E (St b h t) := by
  cases hd
  have hA : Rm 10 callerA := ⟨by decide, by decide, rfl⟩
  have hh : callerA.handled = none := rfl
  have hG : (R + 1) * (R + 1) < 1000000000000000000000000 := by have := Nat.mul_le_mul (show R + 1 ≤ 134217728 by walk_at "m_n") (show R + 1 ≤ 134217728 by walk_at "m_n"); walk_at "m_n"
  have lN := len_small (n := N) (by walk_at "m_n")
  have lR := len_small (n := R) (by walk_at "m_n")
  have lQ := len_small (n := R * R) (by have := hR.1; walk_at "m_n")
  have lG := len_small hG
  show wpAny _ _ (execs (List.drop 21 (List.drop 6 _)) _) _ _ _
  simp only [List.drop]
  refine execs_ifN ?_
  (refine r_callL3 (by with_reducible assumption) (by rfl) (by rfl) (by rfl) (by rfl) (by rfl) ?_; intro _ _)
  skip
  refine ⟨Fm.keep (by with_reducible assumption), law_order_c (by with_reducible assumption) (by rfl) (by assumption) (x := R * R) (by walk_at "m_has") (y := N) (by walk_at "m_has") hD (by walk_at "m_n") (by walk_at "m_n") (hA.deeper.le (by walk_at "m_n")) ?_⟩
  intro h₁ t₁ F₁
  with_reducible refine wpAny_truthy_bool ?_
  with_reducible refine ite_nt ?_
  with_reducible refine wpAny_execs_nil ?_
  refine execs_ifN ?_
  (refine r_callN (by with_reducible assumption) (by rfl) (by rfl) ?_; intro _ _)
  refine args_loc (by with_reducible assumption) (by rfl) ?_
  refine args_loc (by with_reducible assumption) (by rfl) ?_
  refine args_cons ?_
  with_reducible refine wpAny_UnaryOp ?_
  ((with_reducible refine x_int ?_); intro _ _)
  ((with_reducible refine x_neg ?_); intro _ _)
  with_reducible refine args_nil ?_
  skip
  refine ⟨Fm.keep (by with_reducible assumption), law_order_c (by with_reducible assumption) (by rfl) (by assumption) (x := N) (by walk_at "m_has") (y := (R + 1) * (R + 1)) (by walk_at "m_has") (by unfold cmpI; rw [if_pos hR.2]) (by walk_at "m_n") (by walk_at "m_n") (hA.deeper.le (by walk_at "m_n")) ?_⟩
  intro h₂ t₂ F₂
  with_reducible refine wpAny_truthy_bool ?_
  with_reducible refine ite_nt ?_
  with_reducible refine wpAny_execs_nil ?_
  refine execs_ifN ?_
  (refine r_callN (by with_reducible assumption) (by rfl) (by rfl) ?_; intro _ _)
  refine args_loc (by with_reducible assumption) (by rfl) ?_
  refine args_loc (by with_reducible assumption) (by rfl) ?_
  refine args_cons ?_
  ((with_reducible refine x_int ?_); intro _ _)
  with_reducible refine args_nil ?_
  skip
  refine ⟨Fm.keep (by with_reducible assumption), law_order_c (by with_reducible assumption) (by rfl) (by assumption) (x := (R + 1) * (R + 1)) (by walk_at "m_has") (y := N) (by walk_at "m_has") (by have := hR.2; unfold cmpI; rw [if_neg (by walk_at "m_n"), if_neg (by walk_at "m_n")]) (by walk_at "m_n") (by walk_at "m_n") (hA.deeper.le (by walk_at "m_n")) ?_⟩
  intro h₃ t₃ F₃
  with_reducible refine wpAny_truthy_bool ?_
  with_reducible refine ite_nt ?_
  with_reducible refine wpAny_execs_nil ?_
  refine execs_ifN ?_
  (refine r_callN (by with_reducible assumption) (by rfl) (by rfl) ?_; intro _ _)
  refine args_cons ?_
  (refine r_callL2 (by with_reducible assumption) (by rfl) (by rfl) (by rfl) (by rfl) ?_; intro _ _)
  skip
  refine ⟨Fm.keep (by with_reducible assumption), law_divide_R (by with_reducible assumption) ⟨rfl, fun _ q => nomatch q⟩ (by rfl) (by assumption) (x := N) (by walk_at "m_mem") (fun _ x => x.pl_ints) (y := R) (by walk_at "m_mem") (fun _ x => x.pl_ints) (by walk_at "m_n") (by walk_at "m_n") rfl (hA.deeper.le (by walk_at "m_n")) ?_⟩
  intro Z h₄ t₄ hZ F₄
  replace F₄ := F₄.swap
  dsimp only [List.nil_append, List.cons_append] at F₄
  refine args_loc (by with_reducible assumption) (by rfl) ?_
  refine args_loc (by with_reducible assumption) (by rfl) ?_
  with_reducible refine args_nil ?_
  skip
  refine ⟨Fm.keep (by with_reducible assumption), law_parts_R (by with_reducible assumption) (by rfl) (by assumption) hZ (Fm.some F₄ (by walk_at "m_up")) rfl rfl (by walk_at "m_n") (by walk_at "m_n") (hA.deeper.le (by walk_at "m_n")) ?_⟩
  intro h₅ t₅ F₅
  with_reducible refine wpAny_truthy_bool ?_
  with_reducible refine ite_nt ?_
  with_reducible refine wpAny_execs_nil ?_
  refine execs_asg ?_
  with_reducible refine wpAny_BinOp ?_
  ((with_reducible refine x_int ?_); intro _ _)
  (refine r_callN (by with_reducible assumption) (by rfl) (by rfl) ?_; intro _ _)
  refine args_cons ?_
  (refine x_scr (by with_reducible assumption) (by rfl) (by walk_at "m_has") (by walk_at "m_n") (by walk_at "m_n") (by walk_at "m_n") ?_; intro _ _ _)
  refine args_cons ?_
  ((with_reducible refine x_int ?_); intro _ _)
  with_reducible refine args_nil ?_
  skip
  refine ⟨Fm.keep (by with_reducible assumption), law_pick_c (by with_reducible assumption) (by rfl) (by assumption) (by decide) (hA.deeper.le (by walk_at "m_n")) ?_⟩
  intro u₆ h₆ t₆ F₆
  obtain ⟨v, hv⟩ := Int.eq_ofNat_of_zero_le (show 0 ≤ 1 + xs.getD (8 : Int).toNat 0 % 9999 by walk_at "m_n")
  have hv1 : 0 < v := by walk_at "m_n"
  have hv2 : v < 10000 := by walk_at "m_n"
  ((with_reducible refine x_add ?_); intro _ _)
  (refine r_store (by with_reducible assumption) ?_; intro _ _ _)
  refine execs_asg ?_
  (refine r_callL2 (by with_reducible assumption) (by rfl) (by rfl) (by rfl) (by rfl) ?_; intro _ _)
  skip
  refine ⟨Fm.keep (by with_reducible assumption), divmod_small_c (by with_reducible assumption) (by rfl) (by assumption) (x := N) (by walk_at "m_has") hv hv1 hv2 (by walk_at "m_n") (hA.deeper.le (by walk_at "m_n")) ?_⟩
  intro r q uu h₇ t₇ F₇
  have hq1 := Nat.div_le_self N v
  (refine r_store (by with_reducible assumption) ?_; intro _ _ _)
  with_reducible refine wpAny_execs_cons ?_
  with_reducible refine wpAny_If ?_
  with_reducible refine wpAny_isTrue_Not ?_
  refine wpAny_isTrue_Compare1 ?_
  refine r_tcall bb_type (by with_reducible assumption) (by walk_at "m_mem") ?_
  refine args_loc (by with_reducible assumption) (by rfl) ?_
  with_reducible refine args_nil ?_
  refine x_typeT (by walk_at "m_has") ?_
  refine r_bi (by with_reducible assumption) (by walk_at "m_mem") bb_tuple ?_
  refine x_isT (c := true) (by decide) ?_
  with_reducible refine wpAny_truthy_bool ?_
  with_reducible refine ite_nt ?_
  with_reducible refine wpAny_execs_nil ?_
  refine execs_ifC ?_
  refine r_bcall bb_len (by with_reducible assumption) (by walk_at "m_mem") ?_
  refine args_loc (by with_reducible assumption) (by rfl) ?_
  with_reducible refine args_nil ?_
  (refine x_lenT (by walk_at "m_has") ?_; intro _ _)
  ((with_reducible refine x_int ?_); intro _ _)
  with_reducible refine P.ne_int ?_
  with_reducible refine wpAny_truthy_bool ?_
  with_reducible refine ite_bne (fun q => absurd (by walk_at "m_n") q) (fun _ => ?_)
  with_reducible refine wpAny_execs_nil ?_
  refine execs_ifN ?_
  (refine r_callN (by with_reducible assumption) (by rfl) (by rfl) ?_; intro _ _)
  refine args_cons ?_
  refine Subscript_ ?_
  refine r_loc (by with_reducible assumption) (by rfl) ?_
  ((with_reducible refine x_int ?_); intro _ _)
  refine x_itemW (by walk_at "m_has") (by rfl) (by rfl) (by decide) (by decide) ?_
  refine args_cons ?_
  with_reducible refine wpAny_BinOp ?_
  refine r_loc (by with_reducible assumption) (by rfl) ?_
  refine r_loc (by with_reducible assumption) (by rfl) ?_
  ((with_reducible refine x_div (by walk_at "m_n") (by walk_at "m_n") ?_); intro _ _)
  with_reducible refine args_nil ?_
  skip
  refine ⟨Fm.keep (by with_reducible assumption), law_same_c (by with_reducible assumption) (by rfl) (by assumption) (n := N / v) (by walk_at "m_has") (by rw [hv]; rfl) (by walk_at "m_n") (hA.deeper.le (by walk_at "m_n")) ?_⟩
  intro h₈ t₈ F₈
  with_reducible refine wpAny_truthy_bool ?_
  with_reducible refine ite_nt ?_
  with_reducible refine wpAny_execs_nil ?_
  with_reducible refine wpAny_execs_cons ?_
  with_reducible refine wpAny_If ?_
  with_reducible refine wpAny_isTrue_Not ?_
  refine wpAny_isTrue_Compare1 ?_
  refine r_tcall bb_type (by with_reducible assumption) (by walk_at "m_mem") ?_
  refine args_cons ?_
  refine Subscript_ ?_
  refine r_loc (by with_reducible assumption) (by rfl) ?_
  ((with_reducible refine x_int ?_); intro _ _)
  refine x_itemW (by walk_at "m_has") (by rfl) (by rfl) (by decide) (by decide) ?_
  with_reducible refine args_nil ?_
  with_reducible refine x_typeI ?_
  refine r_bi (by with_reducible assumption) (by walk_at "m_mem") bb_int ?_
  refine x_isT (c := true) (by decide) ?_
  with_reducible refine wpAny_truthy_bool ?_
  with_reducible refine ite_nt ?_
  with_reducible refine wpAny_execs_nil ?_
  refine execs_ifC ?_
  refine Subscript_ ?_
  refine r_loc (by with_reducible assumption) (by rfl) ?_
  ((with_reducible refine x_int ?_); intro _ _)
  refine x_itemW (by walk_at "m_has") (by rfl) (by rfl) (by decide) (by decide) ?_
  with_reducible refine wpAny_BinOp ?_
  refine r_loc (by with_reducible assumption) (by rfl) ?_
  refine r_loc (by with_reducible assumption) (by rfl) ?_
  ((with_reducible refine x_mod (by walk_at "m_n") ?_); intro _ _)
  with_reducible refine P.ne_int ?_
  with_reducible refine wpAny_truthy_bool ?_
  refine ite_bne (fun q => absurd (by rw [hv]; rfl) q) (fun _ => ?_)
  with_reducible refine wpAny_execs_nil ?_
  refine execs_ifN ?_
  (refine r_callL2 (by with_reducible assumption) (by rfl) (by rfl) (by rfl) (by rfl) ?_; intro _ _)
  skip
  refine ⟨Fm.keep (by with_reducible assumption), law_same_c (by with_reducible assumption) (by rfl) (by assumption) (n := B) (by walk_at "m_has") rfl (by walk_at "m_n") (hA.deeper.le (by walk_at "m_n")) ?_⟩
  intro h₉ t₉ F₉
  with_reducible refine wpAny_truthy_bool ?_
  with_reducible refine ite_nt ?_
  with_reducible refine wpAny_execs_nil ?_
  refine execs_ifN ?_
  (refine r_callL2 (by with_reducible assumption) (by rfl) (by rfl) (by rfl) (by rfl) ?_; intro _ _)
  skip
  refine ⟨Fm.keep (by with_reducible assumption), law_same_c (by with_reducible assumption) (by rfl) (by assumption) (n := N) (by walk_at "m_has") rfl (by walk_at "m_n") (hA.deeper.le (by walk_at "m_n")) ?_⟩
  intro g₁ s₁ G₁
  with_reducible refine wpAny_truthy_bool ?_
  with_reducible refine ite_nt ?_
  with_reducible refine wpAny_execs_nil ?_
  refine execs_ifN ?_
  (refine r_callL2 (by with_reducible assumption) (by rfl) (by rfl) (by rfl) (by rfl) ?_; intro _ _)
  skip
  refine ⟨Fm.keep (by with_reducible assumption), law_same_c (by with_reducible assumption) (by rfl) (by assumption) (n := R) (by walk_at "m_has") rfl (by walk_at "m_n") (hA.deeper.le (by walk_at "m_n")) ?_⟩
  intro g₂ s₂ G₂
  with_reducible refine wpAny_truthy_bool ?_
  with_reducible refine ite_nt ?_
  with_reducible refine wpAny_execs_nil ?_
  with_reducible refine wpAny_execs_cons ?_
  with_reducible refine wpAny_Return_some ?_
  with_reducible refine x_bool ?_
  skip
  exact k _ _ (Fm.keep (by with_reducible assumption))

theorem law_tail {l : Addr} {cd : Value} {xs : List Int} {B sh : Nat} {us ub : Tok} {Q : Flow → Shared → Prop} (F : Fm (Wx mg mb) h₀ L none h [("shift", .int (sh : Int) us), ("base", .int (B : Int) ub), ("script", .ref l)] [(l, .kI xs, false)])
    (hxs : 9 ≤ xs.length ∧ xs.length ≤ 63) (hB : B ≤ 10000000000000000) (hsh : sh = 0 ∨ (sh = 1 ∧ B ≤ 143)) (hd : defAt pw 31 = some (nm, ps, bd, sc))
    (k : ∀ h' t', Stays h₀ h' → Q (.ret (.bool true)) (St b h' t')) :
    wpAny (model prog w) (callerA.deeper (envOf nm sc L a cd)) (execs (restOf 6 bd) (envOf nm sc L a cd)) Q E (St b h t) := by
  cases hd
  have hA : Rm 10 callerA := ⟨by decide, by decide, rfl⟩
  have hh : callerA.handled = none := rfl
  obtain ⟨N, hN, hNi, hNb⟩ : ∃ N : Nat, Kept (N = B * 10000 ^ sh) ∧ Kept ((B : Int) * 10000 ^ (sh : Int).toNat = (N : Int)) ∧ N < 10000000000000001 :=
    ⟨B * 10000 ^ sh, ⟨rfl⟩, ⟨by rw [Int.toNat_natCast, Int.natCast_mul, Int.natCast_pow]; rfl⟩, by rcases hsh with rfl | ⟨rfl, _⟩ <;> omega⟩
  have hsh1 : sh ≤ 1 := by walk_at "m_n"
  refine execs_split 21 ?_
  show wpAny _ _ (execs (List.take 21 (List.drop 6 _)) _) _ _ _
  simp only [List.drop, List.take]
  refine execs_asg ?_
  (refine r_callN (by with_reducible assumption) (by rfl) (by rfl) ?_; intro _ _)
  refine args_cons ?_
  (refine x_scr (by with_reducible assumption) (by rfl) (by walk_at "m_has") (by walk_at "m_n") (by walk_at "m_n") (by walk_at "m_n") ?_; intro _ _ _)
  refine args_cons ?_
  ((with_reducible refine x_int ?_); intro _ _)
  with_reducible refine args_nil ?_
  skip
  refine ⟨Fm.keep (by with_reducible assumption), law_pick_c (by with_reducible assumption) (by rfl) (by assumption) (by decide) (hA.deeper.le (by walk_at "m_n")) ?_⟩
  intro u₁ h₁ t₁ F₁
  obtain ⟨dm, hdm⟩ := Int.eq_ofNat_of_zero_le (show 0 ≤ xs.getD (4 : Int).toNat 0 % 8 by walk_at "m_n")
  rw [hdm]
  (refine r_store (by with_reducible assumption) ?_; intro _ _ _)
  refine execs_asg ?_
  (refine r_callN (by with_reducible assumption) (by rfl) (by rfl) ?_; intro _ _)
  refine args_loc (by with_reducible assumption) (by rfl) ?_
  refine args_cons ?_
  (refine r_callN (by with_reducible assumption) (by rfl) (by rfl) ?_; intro _ _)
  refine args_cons ?_
  (refine x_scr (by with_reducible assumption) (by rfl) (by walk_at "m_has") (by walk_at "m_n") (by walk_at "m_n") (by walk_at "m_n") ?_; intro _ _ _)
  refine args_cons ?_
  ((with_reducible refine x_int ?_); intro _ _)
  with_reducible refine args_nil ?_
  skip
  refine ⟨Fm.keep (by with_reducible assumption), law_pick_c (by with_reducible assumption) (by rfl) (by assumption) (by decide) (hA.deeper.le (by walk_at "m_n")) ?_⟩
  intro u₂ h₂ t₂ F₂
  refine args_loc (by with_reducible assumption) (by rfl) ?_
  refine args_cons ?_
  (refine r_callN (by with_reducible assumption) (by rfl) (by rfl) ?_; intro _ _)
  refine args_cons ?_
  (refine x_scr (by with_reducible assumption) (by rfl) (by walk_at "m_has") (by walk_at "m_n") (by walk_at "m_n") (by walk_at "m_n") ?_; intro _ _ _)
  refine args_cons ?_
  ((with_reducible refine x_int ?_); intro _ _)
  with_reducible refine args_nil ?_
  skip
  refine ⟨Fm.keep (by with_reducible assumption), law_pick_c (by with_reducible assumption) (by rfl) (by assumption) (by decide) (hA.deeper.le (by walk_at "m_n")) ?_⟩
  intro u₃ h₃ t₃ F₃
  refine args_cons ?_
  (refine x_scr (by with_reducible assumption) (by rfl) (by walk_at "m_has") (by walk_at "m_n") (by walk_at "m_n") (by walk_at "m_n") ?_; intro _ _ _)
  with_reducible refine args_nil ?_
  skip
  refine ⟨Fm.keep (by with_reducible assumption), law_text_c (by with_reducible assumption) (by rfl) (by assumption) rfl (by walk_at "m_n") (by walk_at "m_n") (by walk_at "m_n") rfl (by walk_at "m_n") (by walk_at "m_n") (by walk_at "m_n") (hA.deeper.le (by walk_at "m_n")) ?_⟩
  intro tx u₄ h₄ t₄ hT has hl F₄
  (refine r_store (by with_reducible assumption) ?_; intro _ _ _)
  refine execs_asg ?_
  (refine r_callL1 (by with_reducible assumption) (by rfl) (by rfl) (by rfl) ?_; intro _ _)
  skip
  rcases hT with ⟨h5, hdg, hne, hv⟩ | ⟨h5, hbad⟩
  case inr =>
    refine ⟨Fm.keep (by with_reducible assumption), law_read_r (by with_reducible assumption) ⟨rfl, fun _ q => nomatch q⟩ (by rfl) (by assumption) hbad has rfl (hA.deeper.le (by walk_at "m_n")) ?_⟩
    intro u₅ h₅ t₅ F₅
    (refine r_store (by with_reducible assumption) ?_; intro _ _ _)
    refine execs_ifC ?_
    refine r_loc (by with_reducible assumption) (by rfl) ?_
    ((with_reducible refine x_int ?_); intro _ _)
    with_reducible refine P.gt_int ?_
    with_reducible refine wpAny_truthy_bool ?_
    with_reducible refine ite_dec (fun _ => ?_) (fun q => absurd (by walk_at "m_n") q)
    refine execs_ifC ?_
    refine r_loc (by with_reducible assumption) (by rfl) ?_
    ((with_reducible refine x_str ?_); intro _ _)
    refine x_neS rfl ?_
    with_reducible refine wpAny_truthy_bool ?_
    with_reducible refine ite_f ?_
    with_reducible refine wpAny_execs_nil ?_
    with_reducible refine wpAny_execs_cons ?_
    with_reducible refine wpAny_Return_some ?_
    with_reducible refine x_bool ?_
    skip
    exact k _ _ (Fm.keep (by with_reducible assumption))
  refine ⟨Fm.keep (by with_reducible assumption), law_read_c (by with_reducible assumption) ⟨rfl, fun _ q => nomatch q⟩ (by rfl) (by assumption) hdg hne (by walk_at "m_n") rfl (hA.deeper.le (by walk_at "m_n")) ?_⟩
  intro rn h₅ t₅ F₅
  rw [hv] at F₅
  (refine r_store (by with_reducible assumption) ?_; intro _ _ _)
  refine execs_ifC ?_
  refine r_loc (by with_reducible assumption) (by rfl) ?_
  ((with_reducible refine x_int ?_); intro _ _)
  with_reducible refine P.gt_int ?_
  with_reducible refine wpAny_truthy_bool ?_
  with_reducible refine ite_dec (fun q => absurd q (by walk_at "m_n")) (fun _ => ?_)
  with_reducible refine wpAny_execs_nil ?_
  refine execs_ifN ?_
  (refine r_callL2 (by with_reducible assumption) (by rfl) (by rfl) (by rfl) (by rfl) ?_; intro _ _)
  skip
  refine ⟨Fm.keep (by with_reducible assumption), law_same_c (by with_reducible assumption) (by rfl) (by assumption) (n := B) (by walk_at "m_has") rfl (by walk_at "m_n") (hA.deeper.le (by walk_at "m_n")) ?_⟩
  intro h₆ t₆ F₆
  with_reducible refine wpAny_truthy_bool ?_
  with_reducible refine ite_nt ?_
  with_reducible refine wpAny_execs_nil ?_
  refine execs_asg ?_
  with_reducible refine wpAny_BinOp ?_
  refine r_loc (by with_reducible assumption) (by rfl) ?_
  with_reducible refine wpAny_BinOp ?_
  ((with_reducible refine x_int ?_); intro _ _)
  refine r_loc (by with_reducible assumption) (by rfl) ?_
  ((with_reducible refine x_pow (by walk_at "m_n") (pow_fits (by walk_at "m_n") (by walk_at "m_n") (by walk_at "m_n") (by walk_at "m_n")) ?_); intro _ _)
  ((with_reducible refine x_mul (by first | exact IntMulOk.of_right (intBits_le_64 (by walk_at "m_n") (by walk_at "m_n")) | exact IntMulOk.of_left (intBits_le_64 (by walk_at "m_n") (by walk_at "m_n")) | exact mul_fits2 (by walk_at "m_n") (by walk_at "m_n") (by walk_at "m_n") (by walk_at "m_n")) ?_); intro _ _)
  (refine r_store (by with_reducible assumption) ?_; intro _ _ _)
  refine execs_asg ?_
  (refine r_callL1 (by with_reducible assumption) (by rfl) (by rfl) (by rfl) ?_; intro _ _)
  skip
  rename_i un _ _ _ Fn _ _
  rw [hNi.out] at Fn
  refine ⟨Fm.keep (by with_reducible assumption), law_root_c (by with_reducible assumption) (by rfl) (by assumption) hNi.out (by walk_at "m_n") (hA.deeper.le (by walk_at "m_n")) ?_⟩
  intro R uw h₇ t₇ hR F₇
  have hRb : R ≤ 100000000 := by
    refine Decidable.byContradiction fun q => ?_
    have h1 := Nat.mul_le_mul (show 100000001 ≤ R by walk_at "m_n") (show 100000001 ≤ R by walk_at "m_n")
    have h2 := hR.1
    omega
  have hG : (R + 1) * (R + 1) < 1000000000000000000000000 := by have := Nat.mul_le_mul (show R + 1 ≤ 100000001 by walk_at "m_n") (show R + 1 ≤ 100000001 by walk_at "m_n"); walk_at "m_n"
  have hQ : R * R < 1000000000000000000000000 := by have := hR.1; walk_at "m_n"
  have lN := len_small (n := N) (by walk_at "m_n")
  have lB := len_small (n := B) (by walk_at "m_n")
  have lR := len_small (n := R) (by walk_at "m_n")
  have lQ := len_small hQ
  have lG := len_small hG
  have l2 := len_small (n := R + R) (by walk_at "m_n")
  have l3 := len_small (n := R * R + (R + R)) (by rw [← sq_next] at hG; walk_at "m_n")
  have l1 := len_small (n := 1) (by decide)
  (refine r_store (by with_reducible assumption) ?_; intro _ _ _)
  refine execs_asg ?_
  (refine r_callL2 (by with_reducible assumption) (by rfl) (by rfl) (by rfl) (by rfl) ?_; intro _ _)
  skip
  refine ⟨Fm.keep (by with_reducible assumption), shifted_c (by with_reducible assumption) (by rfl) (by assumption) (x := B) (by walk_at "m_has") (by walk_at "m_n") (by walk_at "m_n") (by walk_at "m_n") (hA.deeper.le (by walk_at "m_n")) ?_⟩
  intro rs h₈ t₈ F₈
  rw [Int.toNat_natCast, ← hN.out] at F₈
  (refine r_store (by with_reducible assumption) ?_; intro _ _ _)
  refine execs_ifN ?_
  (refine r_callL2 (by with_reducible assumption) (by rfl) (by rfl) (by rfl) (by rfl) ?_; intro _ _)
  skip
  refine ⟨Fm.keep (by with_reducible assumption), law_same_c (by with_reducible assumption) (by rfl) (by assumption) (n := N) (by walk_at "m_has") rfl (by walk_at "m_n") (hA.deeper.le (by walk_at "m_n")) ?_⟩
  intro h₉ t₉ F₉
  with_reducible refine wpAny_truthy_bool ?_
  with_reducible refine ite_nt ?_
  with_reducible refine wpAny_execs_nil ?_
  refine execs_asg ?_
  (refine r_callL1 (by with_reducible assumption) (by rfl) (by rfl) (by rfl) ?_; intro _ _)
  skip
  refine ⟨Fm.keep (by with_reducible assumption), isqrt_nat_c (by with_reducible assumption) (by rfl) (by assumption) (x := N) (by walk_at "m_has") hR (by walk_at "m_n") (hA.deeper.le (by walk_at "m_n")) ?_⟩
  intro rr g₁ s₁ G₁
  (refine r_store (by with_reducible assumption) ?_; intro _ _ _)
  refine execs_ifN ?_
  (refine r_callL2 (by with_reducible assumption) (by rfl) (by rfl) (by rfl) (by rfl) ?_; intro _ _)
  skip
  refine ⟨Fm.keep (by with_reducible assumption), law_same_c (by with_reducible assumption) (by rfl) (by assumption) (n := R) (by walk_at "m_has") rfl (by walk_at "m_n") (hA.deeper.le (by walk_at "m_n")) ?_⟩
  intro g₂ s₂ G₂
  with_reducible refine wpAny_truthy_bool ?_
  with_reducible refine ite_nt ?_
  with_reducible refine wpAny_execs_nil ?_
  refine execs_ifN ?_
  (refine r_callL2 (by with_reducible assumption) (by rfl) (by rfl) (by rfl) (by rfl) ?_; intro _ _)
  skip
  refine ⟨Fm.keep (by with_reducible assumption), law_says_c (by with_reducible assumption) (by rfl) (by assumption) (n := R) (by walk_at "m_has") rfl (by walk_at "m_n") (hA.deeper.le (by walk_at "m_n")) ?_⟩
  intro g₃ s₃ G₃
  with_reducible refine wpAny_truthy_bool ?_
  with_reducible refine ite_nt ?_
  with_reducible refine wpAny_execs_nil ?_
  refine execs_ifN ?_
  (refine r_callL2 (by with_reducible assumption) (by rfl) (by rfl) (by rfl) (by rfl) ?_; intro _ _)
  skip
  refine ⟨Fm.keep (by with_reducible assumption), law_says_c (by with_reducible assumption) (by rfl) (by assumption) (n := N) (by walk_at "m_has") rfl (by walk_at "m_n") (hA.deeper.le (by walk_at "m_n")) ?_⟩
  intro g₄ s₄ G₄
  with_reducible refine wpAny_truthy_bool ?_
  with_reducible refine ite_nt ?_
  with_reducible refine wpAny_execs_nil ?_
  refine execs_asg ?_
  (refine r_callL2 (by with_reducible assumption) (by rfl) (by rfl) (by rfl) (by rfl) ?_; intro _ _)
  skip
  refine ⟨Fm.keep (by with_reducible assumption), mul_school_c (by with_reducible assumption) (by rfl) (by assumption) (x := R) (by walk_at "m_has") (y := R) (by walk_at "m_has") (by walk_at "m_n") (by walk_at "m_n") (hA.deeper.le (by walk_at "m_n")) ?_⟩
  intro rq g₅ s₅ G₅
  have sq : (R : Int) * (R : Int) = ((R * R : Nat) : Int) := (Int.natCast_mul R R).symm
  (refine r_store (by with_reducible assumption) ?_; intro _ _ _)
  refine execs_ifN ?_
  (refine r_callN (by with_reducible assumption) (by rfl) (by rfl) ?_; intro _ _)
  refine args_loc (by with_reducible assumption) (by rfl) ?_
  refine args_cons ?_
  with_reducible refine wpAny_BinOp ?_
  refine r_loc (by with_reducible assumption) (by rfl) ?_
  refine r_loc (by with_reducible assumption) (by rfl) ?_
  ((with_reducible refine x_mul (by first | exact IntMulOk.of_right (intBits_le_64 (by walk_at "m_n") (by walk_at "m_n")) | exact IntMulOk.of_left (intBits_le_64 (by walk_at "m_n") (by walk_at "m_n")) | exact mul_fits2 (by walk_at "m_n") (by walk_at "m_n") (by walk_at "m_n") (by walk_at "m_n")) ?_); intro _ _)
  with_reducible refine args_nil ?_
  skip
  refine ⟨Fm.keep (by with_reducible assumption), law_same_c (by with_reducible assumption) (by rfl) (by assumption) (n := R * R) (by walk_at "m_has") sq hQ (hA.deeper.le (by walk_at "m_n")) ?_⟩
  intro g₆ s₆ G₆
  with_reducible refine wpAny_truthy_bool ?_
  with_reducible refine ite_nt ?_
  with_reducible refine wpAny_execs_nil ?_
  refine execs_ifN ?_
  (refine r_callN (by with_reducible assumption) (by rfl) (by rfl) ?_; intro _ _)
  refine args_cons ?_
  (refine r_callL2 (by with_reducible assumption) (by rfl) (by rfl) (by rfl) (by rfl) ?_; intro _ _)
  skip
  refine ⟨Fm.keep (by with_reducible assumption), law_take_c (by with_reducible assumption) ⟨rfl, fun _ q => nomatch q⟩ (by rfl) (by assumption) (x := N) (by walk_at "m_mem") (fun _ x => x.pl_ints) (y := R * R) (by walk_at "m_mem") (fun _ x => x.pl_ints) (by walk_at "m_n") (by walk_at "m_n") rfl (hA.deeper.le (by walk_at "m_n")) ?_ (fun _ _ _ q => absurd hR.1 (Nat.not_le.mpr q))⟩
  intro rt g₇ s₇ hle G₇
  refine args_cons ?_
  with_reducible refine wpAny_BinOp ?_
  refine r_loc (by with_reducible assumption) (by rfl) ?_
  with_reducible refine wpAny_BinOp ?_
  refine r_loc (by with_reducible assumption) (by rfl) ?_
  refine r_loc (by with_reducible assumption) (by rfl) ?_
  ((with_reducible refine x_mul (by first | exact IntMulOk.of_right (intBits_le_64 (by walk_at "m_n") (by walk_at "m_n")) | exact IntMulOk.of_left (intBits_le_64 (by walk_at "m_n") (by walk_at "m_n")) | exact mul_fits2 (by walk_at "m_n") (by walk_at "m_n") (by walk_at "m_n") (by walk_at "m_n")) ?_); intro _ _)
  ((with_reducible refine x_sub ?_); intro _ _)
  with_reducible refine args_nil ?_
  skip
  refine ⟨Fm.keep (by with_reducible assumption), law_same_c (by with_reducible assumption) (by rfl) (by assumption) (n := N - R * R) (by walk_at "m_has") (by rw [sq]; walk_at "m_n") (by walk_at "m_n") (hA.deeper.le (by walk_at "m_n")) ?_⟩
  intro g₈ s₈ G₈
  with_reducible refine wpAny_truthy_bool ?_
  with_reducible refine ite_nt ?_
  with_reducible refine wpAny_execs_nil ?_
  refine execs_asg ?_
  (refine r_callN (by with_reducible assumption) (by rfl) (by rfl) ?_; intro _ _)
  refine args_cons ?_
  with_reducible refine List_ ?_
  refine args_cons ?_
  ((with_reducible refine x_int ?_); intro _ _)
  with_reducible refine args_nil ?_
  skip
  refine x_newList (by with_reducible assumption) (by simp) ?_
  intro r1 g₉ G₉
  replace G₉ := G₉.also (K' := .kP [1]) (.head _) (fun _ x => x.ex_pl (.cons 1 _ .nil))
  rw [dg_one] at G₉
  refine args_cons ?_
  (refine r_callN (by with_reducible assumption) (by rfl) (by rfl) ?_; intro _ _)
  refine args_loc (by with_reducible assumption) (by rfl) ?_
  refine args_cons ?_
  (refine r_callL2 (by with_reducible assumption) (by rfl) (by rfl) (by rfl) (by rfl) ?_; intro _ _)
  skip
  refine ⟨Fm.keep (by with_reducible assumption), add_c (by with_reducible assumption) (by rfl) (by assumption) (x := R) (by walk_at "m_has") (y := R) (by walk_at "m_has") (by walk_at "m_n") (by walk_at "m_n") (hA.deeper.le (by walk_at "m_n")) ?_⟩
  intro r2 f₁ e₁ D₁
  with_reducible refine args_nil ?_
  skip
  refine ⟨Fm.keep (by with_reducible assumption), add_c (by with_reducible assumption) (by rfl) (by assumption) (x := R * R) (by walk_at "m_has") (y := R + R) (by walk_at "m_has") (by walk_at "m_n") (by walk_at "m_n") (hA.deeper.le (by walk_at "m_n")) ?_⟩
  intro r3 f₂ e₂ D₂
  with_reducible refine args_nil ?_
  skip
  refine ⟨Fm.keep (by with_reducible assumption), add_c (by with_reducible assumption) (by rfl) (by assumption) (x := 1) (by walk_at "m_has") (y := R * R + (R + R)) (by walk_at "m_has") (by walk_at "m_n") (by walk_at "m_n") (hA.deeper.le (by walk_at "m_n")) ?_⟩
  intro rf f₃ e₃ D₃
  rw [sq_next] at D₃
  (refine r_store (by with_reducible assumption) ?_; intro _ _ _)
  refine execs_ifN ?_
  (refine r_callN (by with_reducible assumption) (by rfl) (by rfl) ?_; intro _ _)
  refine args_loc (by with_reducible assumption) (by rfl) ?_
  refine args_cons ?_
  with_reducible refine wpAny_BinOp ?_
  with_reducible refine wpAny_BinOp ?_
  refine r_loc (by with_reducible assumption) (by rfl) ?_
  ((with_reducible refine x_int ?_); intro _ _)
  ((with_reducible refine x_add ?_); intro _ _)
  with_reducible refine wpAny_BinOp ?_
  refine r_loc (by with_reducible assumption) (by rfl) ?_
  ((with_reducible refine x_int ?_); intro _ _)
  ((with_reducible refine x_add ?_); intro _ _)
  ((with_reducible refine x_mul (by first | exact IntMulOk.of_right (intBits_le_64 (by walk_at "m_n") (by walk_at "m_n")) | exact IntMulOk.of_left (intBits_le_64 (by walk_at "m_n") (by walk_at "m_n")) | exact mul_fits2 (by walk_at "m_n") (by walk_at "m_n") (by walk_at "m_n") (by walk_at "m_n")) ?_); intro _ _)
  with_reducible refine args_nil ?_
  skip
  refine ⟨Fm.keep (by with_reducible assumption), law_same_c (by with_reducible assumption) (by rfl) (by assumption) (n := (R + 1) * (R + 1)) (by walk_at "m_has") (by rw [Int.natCast_mul, Int.natCast_add]; rfl) hG (hA.deeper.le (by walk_at "m_n")) ?_⟩
  intro f₄ e₄ D₄
  with_reducible refine wpAny_truthy_bool ?_
  with_reducible refine ite_nt ?_
  with_reducible refine wpAny_execs_nil ?_
  refine execs_ifC ?_
  (refine r_callL2 (by with_reducible assumption) (by rfl) (by rfl) (by rfl) (by rfl) ?_; intro _ _)
  skip
  refine ⟨Fm.keep (by with_reducible assumption), law_take_c (by with_reducible assumption) ⟨rfl, fun _ q => nomatch q⟩ (by rfl) (by assumption) (x := N) (by walk_at "m_mem") (fun _ x => x.pl_ints) (y := (R + 1) * (R + 1)) (by walk_at "m_mem") (fun _ x => x.pl_ints) (by walk_at "m_n") (by walk_at "m_n") rfl (hA.deeper.le (by walk_at "m_n")) (fun _ _ _ q => absurd hR.2 (Nat.not_lt.mpr q)) ?_⟩
  intro u₉ f₅ e₅ hlt D₅
  ((with_reducible refine x_str ?_); intro _ _)
  refine x_neS rfl ?_
  with_reducible refine wpAny_truthy_bool ?_
  with_reducible refine ite_f ?_
  with_reducible refine wpAny_execs_nil ?_
  refine execs_asg ?_
  with_reducible refine wpAny_UnaryOp ?_
  ((with_reducible refine x_int ?_); intro _ _)
  ((with_reducible refine x_neg ?_); intro _ _)
  (refine r_store (by with_reducible assumption) ?_; intro _ _ _)
  refine execs_ifC ?_
  refine r_loc (by with_reducible assumption) (by rfl) ?_
  with_reducible refine wpAny_BinOp ?_
  refine r_loc (by with_reducible assumption) (by rfl) ?_
  refine r_loc (by with_reducible assumption) (by rfl) ?_
  ((with_reducible refine x_mul (by first | exact IntMulOk.of_right (intBits_le_64 (by walk_at "m_n") (by walk_at "m_n")) | exact IntMulOk.of_left (intBits_le_64 (by walk_at "m_n") (by walk_at "m_n")) | exact mul_fits2 (by walk_at "m_n") (by walk_at "m_n") (by walk_at "m_n") (by walk_at "m_n")) ?_); intro _ _)
  with_reducible refine P.eq_int ?_
  with_reducible refine wpAny_truthy_bool ?_
  refine ite_beq (fun q1 => ?_) (fun q1 => ?_)
  · refine execs_asg ?_
    ((with_reducible refine x_int ?_); intro _ _)
    (refine r_store (by with_reducible assumption) ?_; intro _ _ _)
    with_reducible refine wpAny_execs_nil ?_
    with_reducible refine wpAny_execs_nil ?_
    skip
    refine law_tail2 (D := 0) (Fm.wk (by with_reducible assumption) (by walk_at "m_Sub") (by walk_at "m_sub")) hxs (by walk_at "m_n") (by walk_at "m_n") hR (by walk_at "m_n") ?_ rfl k
    rw [sq] at q1
    unfold cmpI; rw [if_neg (by walk_at "m_n"), if_pos (by walk_at "m_n")]
  · with_reducible refine wpAny_execs_nil ?_
    with_reducible refine wpAny_execs_nil ?_
    skip
    refine law_tail2 (D := -1) (Fm.wk (by with_reducible assumption) (by walk_at "m_Sub") (by walk_at "m_sub")) hxs (by walk_at "m_n") (by walk_at "m_n") hR (by walk_at "m_n") ?_ rfl k
    rw [sq] at q1
    have := hR.1
    unfold cmpI; rw [if_pos (by walk_at "m_n")]

theorem law_body {l : Addr} {cd : Value} {xs : List Int} {Q : Flow → Shared → Prop} (F : Fm (Wx mg mb) h₀ L none h [("script", .ref l)] [(l, .kI xs, false)]) (hxs : xs.length ≤ 63) (hd : defAt pw 31 = some (nm, ps, bd, sc))
    (k : ∀ h' t', Stays h₀ h' → Q (.ret (.bool true)) (St b h' t')) :
    wpAny (model prog w) (callerA.deeper (envOf nm sc L a cd)) (execs bd (envOf nm sc L a cd)) Q E (St b h t) := by
  cases hd
  have hA : Rm 10 callerA := ⟨by decide, by decide, rfl⟩
  have hh : callerA.handled = none := rfl
  refine execs_split 6 ?_
  simp only [List.take]
  refine execs_ifC ?_
  (refine r_len (by with_reducible assumption) (by rfl) (by walk_at "m_has") (by walk_at "m_n") ?_ (by walk_at "m_mem"); intro _ _)
  ((with_reducible refine x_int ?_); intro _ _)
  with_reducible refine P.lt_int ?_
  with_reducible refine wpAny_truthy_bool ?_
  refine ite_dec (fun q0 => ?_) (fun q0 => ?_)
  · with_reducible refine wpAny_execs_cons ?_
    with_reducible refine wpAny_Return_some ?_
    with_reducible refine x_bool ?_
    skip
    exact k _ _ (Fm.keep (by with_reducible assumption))
  with_reducible refine wpAny_execs_nil ?_
  refine execs_asg ?_
  (refine r_callN (by with_reducible assumption) (by rfl) (by rfl) ?_; intro _ _)
  refine args_cons ?_
  (refine x_scr (by with_reducible assumption) (by rfl) (by walk_at "m_has") (by walk_at "m_n") (by walk_at "m_n") (by walk_at "m_n") ?_; intro _ _ _)
  refine args_cons ?_
  ((with_reducible refine x_int ?_); intro _ _)
  with_reducible refine args_nil ?_
  skip
  refine ⟨Fm.keep (by with_reducible assumption), law_pick_c (by with_reducible assumption) (by rfl) (by assumption) (by decide) (hA.deeper.le (by walk_at "m_n")) ?_⟩
  intro u₁ h₁ t₁ F₁
  obtain ⟨kd, hkd⟩ := Int.eq_ofNat_of_zero_le (show 0 ≤ xs.getD (0 : Int).toNat 0 % 5 by walk_at "m_n")
  have hk4 : kd ≤ 4 := by walk_at "m_n"
  rw [hkd]
  (refine r_store (by with_reducible assumption) ?_; intro _ _ _)
  refine execs_asg ?_
  (refine r_callN (by with_reducible assumption) (by rfl) (by rfl) ?_; intro _ _)
  refine args_loc (by with_reducible assumption) (by rfl) ?_
  refine args_cons ?_
  (refine x_scr (by with_reducible assumption) (by rfl) (by walk_at "m_has") (by walk_at "m_n") (by walk_at "m_n") (by walk_at "m_n") ?_; intro _ _ _)
  with_reducible refine args_nil ?_
  skip
  refine ⟨Fm.keep (by with_reducible assumption), law_side_c (by with_reducible assumption) (by rfl) (by assumption) rfl hk4 (hA.deeper.le (by walk_at "m_n")) ?_⟩
  intro S u₂ h₂ t₂ hS hS2 F₂
  (refine r_store (by with_reducible assumption) ?_; intro _ _ _)
  refine execs_asg ?_
  (refine r_callN (by with_reducible assumption) (by rfl) (by rfl) ?_; intro _ _)
  refine args_loc (by with_reducible assumption) (by rfl) ?_
  refine args_cons ?_
  (refine r_callN (by with_reducible assumption) (by rfl) (by rfl) ?_; intro _ _)
  refine args_cons ?_
  (refine x_scr (by with_reducible assumption) (by rfl) (by walk_at "m_has") (by walk_at "m_n") (by walk_at "m_n") (by walk_at "m_n") ?_; intro _ _ _)
  refine args_cons ?_
  ((with_reducible refine x_int ?_); intro _ _)
  with_reducible refine args_nil ?_
  skip
  refine ⟨Fm.keep (by with_reducible assumption), law_pick_c (by with_reducible assumption) (by rfl) (by assumption) (by decide) (hA.deeper.le (by walk_at "m_n")) ?_⟩
  intro u₃ h₃ t₃ F₃
  obtain ⟨hw, hhw⟩ := Int.eq_ofNat_of_zero_le (show 0 ≤ xs.getD (2 : Int).toNat 0 % 5 by walk_at "m_n")
  refine args_cons ?_
  (refine x_scr (by with_reducible assumption) (by rfl) (by walk_at "m_has") (by walk_at "m_n") (by walk_at "m_n") (by walk_at "m_n") ?_; intro _ _ _)
  with_reducible refine args_nil ?_
  skip
  refine ⟨Fm.keep (by with_reducible assumption), law_radicand_c (by with_reducible assumption) (by rfl) (by assumption) rfl hS hhw (by walk_at "m_n") (hA.deeper.le (by walk_at "m_n")) ?_⟩
  intro B u₄ h₄ t₄ hB F₄
  have hB1 : B ≤ 10000000000000000 := by
    have := Nat.mul_le_mul (show S ≤ 99999999 by walk_at "m_n") (show S ≤ 99999999 by walk_at "m_n")
    omega
  (refine r_store (by with_reducible assumption) ?_; intro _ _ _)
  refine execs_asg ?_
  ((with_reducible refine x_int ?_); intro _ _)
  (refine r_store (by with_reducible assumption) ?_; intro _ _ _)
  refine execs_ifC ?_
  refine r_loc (by with_reducible assumption) (by rfl) ?_
  ((with_reducible refine x_int ?_); intro _ _)
  with_reducible refine P.eq_int ?_
  with_reducible refine wpAny_truthy_bool ?_
  refine ite_beq (fun q1 => ?_) (fun q1 => ?_)
  · refine execs_asg ?_
    ((with_reducible refine x_int ?_); intro _ _)
    (refine r_store (by with_reducible assumption) ?_; intro _ _ _)
    with_reducible refine wpAny_execs_nil ?_
    with_reducible refine wpAny_execs_nil ?_
    skip
    refine law_tail (sh := 1) (Fm.wk (by with_reducible assumption) (by walk_at "m_Sub") (by walk_at "m_sub")) ⟨by omega, hxs⟩ hB1 (.inr ⟨rfl, ?_⟩) rfl k
    have h1 := hS2 (by walk_at "m_n")
    have := Nat.mul_le_mul (show S ≤ 11 by walk_at "m_n") (show S ≤ 11 by walk_at "m_n")
    omega
  · with_reducible refine wpAny_execs_nil ?_
    with_reducible refine wpAny_execs_nil ?_
    skip
    exact law_tail (sh := 0) (Fm.wk (by with_reducible assumption) (by walk_at "m_Sub") (by walk_at "m_sub")) ⟨by omega, hxs⟩ hB1 (.inl rfl) rfl k
end
end Mine
open PySem PySem.W PyProof.Rows
set_option maxRecDepth 100000 in
set_option maxHeartbeats 8000000 in
theorem PySem.Challenge.cw_sx_ylimbs_2_holds : PySem.Challenge.rw_sx_ylimbs_2.Holds := by
  w_on; o_law; o_head Hook.none; (case hw => w_witness2)
  intro w s₀ s₁ mg mb G₀ Y fa o pm cd doc dV kV ho hd hcd hD hmg hg args vals as hpre hlay hrd hwl hlo
  k_behind G₀ ho hd hcd hD hmg hpre hlay hrd hwl hlo cd
  have G := Mine.gl_of (p := Mine.pw) (bn := ["len", "range", "max", "type", "list", "int", "str", "tuple", "ValueError", "ZeroDivisionError"]) (tabs := [("_law_borders", [0, 1, 2, 99, 100, 9999, 10000, 99999999])]) (stabs := [("_law_marks", ["-", "_", " ", "x", "+", ".", "/", ":"])]) ‹Top _ _ _ _ _ _› ‹Tables _ _ _ _› (by kernel_rfl) (by kernel_rfl) (by kernel_rfl) (by kernel_rfl) (by kernel_rfl)
  refine Mine.law_body (Mine.start_fm G ‹Fr _ _ _ _› ‹Heap.IsList _ _ _› ‹IntsAre _ _›) (by omega) rfl ?_
  intro h' t' hk
  exact ⟨.inl ⟨.bool true, .bool true, [], rfl, fun _ => rfl, .bool true, by kernel_rfl, unshared_nil⟩, hk, rfl, hg⟩
