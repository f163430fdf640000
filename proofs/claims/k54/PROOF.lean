import PyProof.Rows.All
import Wide.All
import OpenK.AllK
import Wide.FinOn
import HandS.ForMost
import HandS.ForExc
import HandS.Lambda
import HandS.EndTab
import HandS.ExcInit
import HandS.IsInst
import HandS.Style
import HandS.Wide
import HandS.Flow
import HandS.Gcd
import HandS.RaiseMore
import HandS.ExcField
import HandS.Walk
import HandS.HotCalls
import KE.KExcIs
import PyProof.ReprRoads
import HandS.ExcIs
import PySem.Challenge.RW_fourbends_k54_whole_roots_by_primes
set_option Elab.async false
set_option linter.all false
set_option maxRecDepth 100000
set_option maxHeartbeats 4000000
namespace Jac
/-! ### lists -/
theorem perm_of_sub : ∀ {l l' : List Nat}, l.Nodup → (∀ x ∈ l, x ∈ l') → l'.length ≤ l.length → l.Perm l'
  | [], l', _, _, h => by
    have : l' = [] := List.length_eq_zero_iff.mp (by simpa using h)
    subst this; exact .nil
  | a :: r, l', hn, hs, h => by
    have ha := hs a List.mem_cons_self
    have hn' := List.nodup_cons.mp hn
    refine List.Perm.trans ?_ (List.perm_cons_erase ha).symm
    refine List.Perm.cons a (perm_of_sub hn'.2 (fun x hx => ?_) ?_)
    · have hxa : x ≠ a := fun e => hn'.1 (e ▸ hx)
      exact (List.mem_erase_of_ne hxa).mpr (hs x (List.mem_cons_of_mem _ hx))
    · rw [List.length_erase_of_mem ha]
      simp at h
      omega
theorem perm_map {l : List Nat} {f : Nat → Nat} (hn : l.Nodup) (hf : ∀ x ∈ l, f x ∈ l) (hi : ∀ x ∈ l, ∀ y ∈ l, f x = f y → x = y) : (l.map f).Perm l := by
  refine perm_of_sub ?_ (fun y hy => ?_) (by simp)
  · unfold List.Nodup
    rw [List.pairwise_map]
    exact List.Pairwise.imp_of_mem (fun {x y} hx hy ne e => ne (hi x hx y hy e)) hn
  · obtain ⟨x, hx, rfl⟩ := List.mem_map.mp hy
    exact hf x hx
/-- a product of signs over a list -/
def sg (f : Nat → Bool) (l : List Nat) : Bool := l.foldr (fun x b => xor (f x) b) false
theorem sg_perm {f : Nat → Bool} {l l' : List Nat} (h : l.Perm l') : sg f l = sg f l' := by
  unfold sg
  exact h.foldr_eq' (fun x _ y _ z => by cases f x <;> cases f y <;> cases z <;> rfl) false
theorem sg_map (f : Nat → Bool) (g : Nat → Nat) (l : List Nat) : sg f (l.map g) = sg (fun x => f (g x)) l := by
  unfold sg; rw [List.foldr_map]
theorem sg_xor (f g : Nat → Bool) : ∀ l : List Nat, sg (fun x => xor (f x) (g x)) l = xor (sg f l) (sg g l)
  | [] => rfl
  | a :: r => by
    have := sg_xor f g r
    simp only [sg, List.foldr_cons] at this ⊢
    rw [this]
    cases f a <;> cases g a <;> cases (List.foldr (fun x b => xor (f x) b) false r) <;> cases (List.foldr (fun x b => xor (g x) b) false r) <;> rfl
theorem sg_congr {f g : Nat → Bool} : ∀ {l : List Nat}, (∀ x ∈ l, f x = g x) → sg f l = sg g l
  | [], _ => rfl
  | a :: r, h => by
    have := sg_congr (f := f) (g := g) (l := r) fun x hx => h x (List.mem_cons_of_mem _ hx)
    simp only [sg, List.foldr_cons] at this ⊢
    rw [this, h a List.mem_cons_self]

/-! ### residues -/
/-- 1 .. h -/
def half (n : Nat) : List Nat := List.range' 1 ((n - 1) / 2)
theorem mem_half {n k : Nat} : k ∈ half n ↔ 1 ≤ k ∧ k ≤ (n - 1) / 2 := by
  unfold half
  rw [List.mem_range'_1]; omega
theorem nodup_half (n : Nat) : (half n).Nodup := List.nodup_range' 1
def neg (a n k : Nat) : Bool := decide (n < 2 * ((a * k) % n))
def pi (a n k : Nat) : Nat := if neg a n k then n - (a * k) % n else (a * k) % n
theorem res_pos {a n k : Nat} (hc : Nat.Coprime a n) (hk : 1 ≤ k) (hk2 : k < n) : 0 < (a * k) % n := by
  rcases Nat.eq_zero_or_pos ((a * k) % n) with h | h
  · have : n ∣ a * k := Nat.dvd_of_mod_eq_zero h
    have := (Nat.Coprime.symm hc).dvd_of_dvd_mul_left this
    have := Nat.le_of_dvd hk this
    omega
  · exact h
theorem pi_mem {a n k : Nat} (ho : n % 2 = 1) (hc : Nat.Coprime a n) (hk : k ∈ half n) : pi a n k ∈ half n := by
  have hk' := mem_half.mp hk
  have h0 := res_pos (a := a) (n := n) hc hk'.1 (by omega)
  have h1 : (a * k) % n < n := Nat.mod_lt _ (by omega)
  rw [mem_half]
  unfold pi neg
  by_cases h : n < 2 * ((a * k) % n)
  · simp only [h, decide_true, if_true]; omega
  · simp only [h, decide_false]; simp; omega
/-- a k = +- pi mod n -/
theorem pi_spec {a n k : Nat} (hn : 0 < n) : ∃ q : Int, (a : Int) * k = n * q + (if neg a n k then -(pi a n k : Int) else (pi a n k : Int)) := by
  have h1 : (a * k) % n < n := Nat.mod_lt _ hn
  have e : (a * k : Nat) = n * ((a * k) / n) + (a * k) % n := (Nat.div_add_mod _ _).symm
  have e' : (a : Int) * k = n * (((a * k) / n : Nat) : Int) + (((a * k) % n : Nat) : Int) := by exact_mod_cast e
  unfold pi neg
  by_cases h : n < 2 * ((a * k) % n)
  · refine ⟨(((a * k) / n : Nat) : Int) + 1, ?_⟩
    simp only [h, decide_true, if_true]
    rw [e', Int.mul_add, Int.mul_one]
    omega
  · refine ⟨(((a * k) / n : Nat) : Int), ?_⟩
    simp only [h, decide_false]
    simp
    exact e'
theorem coprime_dvd {a n : Nat} {x : Int} (hc : Nat.Coprime a n) (h : (n : Int) ∣ (a : Int) * x) : (n : Int) ∣ x := by
  have h2 : n ∣ (a * x.natAbs) := by
    have := Int.natAbs_dvd_natAbs.mpr h
    simpa [Int.natAbs_mul] using this
  exact Int.ofNat_dvd_left.mpr ((Nat.Coprime.symm hc).dvd_of_dvd_mul_left h2)
theorem pi_inj {a n k j : Nat} (ho : n % 2 = 1) (hc : Nat.Coprime a n) (hk : k ∈ half n) (hj : j ∈ half n) (e : pi a n k = pi a n j) : k = j := by
  have hk' := mem_half.mp hk
  have hj' := mem_half.mp hj
  obtain ⟨q1, e1⟩ := pi_spec (a := a) (n := n) (k := k) (by omega)
  obtain ⟨q2, e2⟩ := pi_spec (a := a) (n := n) (k := j) (by omega)
  rw [← e] at e2
  have key : (n : Int) ∣ (k : Int) - j ∨ (n : Int) ∣ (k : Int) + j := by
    cases h1 : neg a n k <;> cases h2 : neg a n j <;> simp [h1, h2] at e1 e2
    · left; exact coprime_dvd hc ⟨q1 - q2, by rw [Int.mul_sub, Int.mul_sub]; omega⟩
    · right; exact coprime_dvd hc ⟨q1 + q2, by rw [Int.mul_add, Int.mul_add]; omega⟩
    · right; exact coprime_dvd hc ⟨q1 + q2, by rw [Int.mul_add, Int.mul_add]; omega⟩
    · left; exact coprime_dvd hc ⟨q1 - q2, by rw [Int.mul_sub, Int.mul_sub]; omega⟩
  rcases key with h | h
  · rcases Int.lt_trichotomy ((k : Int) - j) 0 with z | z | z
    · have := Int.le_of_dvd (a := n) (b := (j : Int) - k) (by omega) (by rw [show (j : Int) - k = -((k : Int) - j) by omega]; exact Int.dvd_neg.mpr h)
      omega
    · omega
    · have := Int.le_of_dvd (by omega) h
      omega
  · have := Int.le_of_dvd (by omega) h
    omega
theorem pi_perm {a n : Nat} (ho : n % 2 = 1) (hc : Nat.Coprime a n) : ((half n).map (pi a n)).Perm (half n) :=
  perm_map (nodup_half n) (fun _ hx => pi_mem ho hc hx) fun _ hx _ hy e => pi_inj ho hc hx hy e
/-- the sign of a by n: true is -1 -/
def mu (a n : Nat) : Bool := sg (neg a n) (half n)
theorem neg_mod (a n k : Nat) : neg (a % n) n k = neg a n k := by unfold neg; rw [Nat.mod_mul_mod]
theorem mu_mod (a n : Nat) : mu (a % n) n = mu a n := by
  unfold mu; exact sg_congr fun k _ => neg_mod a n k
theorem neg_mul {a b n k : Nat} (ho : n % 2 = 1) (ha : Nat.Coprime a n) (hb : Nat.Coprime b n) (hk : k ∈ half n) : neg (a * b) n k = xor (neg b n k) (neg a n (pi b n k)) := by
  have hk' := mem_half.mp hk
  have hb0 := res_pos (a := b) (n := n) hb hk'.1 (by omega)
  have hb1 : (b * k) % n < n := Nat.mod_lt _ (by omega)
  have e0 : (a * b * k) % n = (a * ((b * k) % n)) % n := by rw [Nat.mul_mod_mod, Nat.mul_assoc]
  cases h : neg b n k
  · have : pi b n k = (b * k) % n := by unfold pi; rw [h]; rfl
    rw [this]
    unfold neg
    rw [e0]; simp
  · have hp : pi b n k = n - (b * k) % n := by unfold pi; rw [h]; rfl
    rw [hp]
    have hm := res_pos (a := a) (n := n) (k := (b * k) % n) ha hb0 hb1
    have hl : (a * ((b * k) % n)) % n < n := Nat.mod_lt _ (by omega)
    have e1 : (a * (n - (b * k) % n)) % n = n - (a * ((b * k) % n)) % n := by
      have hz : (a * (n - (b * k) % n) + a * ((b * k) % n)) % n = 0 := by
        rw [← Nat.mul_add, Nat.sub_add_cancel (Nat.le_of_lt hb1), Nat.mul_mod_left]
      rw [Nat.add_mod] at hz
      have l1 : (a * (n - (b * k) % n)) % n < n := Nat.mod_lt _ (by omega)
      generalize (a * (n - (b * k) % n)) % n = u at *
      generalize (a * ((b * k) % n)) % n = v at *
      have : u + v = n := by
        have hd := Nat.dvd_of_mod_eq_zero hz
        obtain ⟨c, hc⟩ := hd
        have : c = 1 := by
          rcases Nat.lt_or_ge c 1 with z | z
          · have : c = 0 := by omega
            subst this; omega
          · rcases Nat.lt_or_ge c 2 with y | y
            · omega
            · have := Nat.mul_le_mul_left n y; omega
        subst this; omega
      omega
    unfold neg
    rw [e0, e1]
    have : (decide (n < 2 * (a * ((b * k) % n) % n))) = !(decide (n < 2 * (n - a * ((b * k) % n) % n))) := by
      generalize (a * ((b * k) % n)) % n = v at *
      by_cases z : n < 2 * v
      · have : ¬ n < 2 * (n - v) := by omega
        simp [z, this]
      · have : n < 2 * (n - v) := by omega
        simp [z, this]
    rw [this]; simp
theorem mu_mul {a b n : Nat} (ho : n % 2 = 1) (ha : Nat.Coprime a n) (hb : Nat.Coprime b n) : mu (a * b) n = xor (mu a n) (mu b n) := by
  unfold mu
  rw [sg_congr (g := fun k => xor (neg b n k) (neg a n (pi b n k))) fun k hk => neg_mul ho ha hb hk, sg_xor, ← sg_map (neg a n) (pi b n), sg_perm (pi_perm ho hb), Bool.xor_comm]

/-! ### reciprocity -/
def odd (n : Nat) : Bool := decide (n % 2 = 1)
theorem odd_add (a b : Nat) : odd (a + b) = xor (odd a) (odd b) := by
  unfold odd
  rcases Nat.mod_two_eq_zero_or_one a with h | h <;> rcases Nat.mod_two_eq_zero_or_one b with h' | h' <;> simp [Nat.add_mod, h, h']
theorem odd_mul (a b : Nat) : odd (a * b) = (odd a && odd b) := by
  unfold odd
  rcases Nat.mod_two_eq_zero_or_one a with h | h <;> rcases Nat.mod_two_eq_zero_or_one b with h' | h' <;> simp [Nat.mul_mod, h, h']
theorem par_step {m n k : Nat} (hm : m % 2 = 1) (ho : n % 2 = 1) : odd k = xor (odd ((m * k) / n)) (xor (neg m n k) (odd (pi m n k))) := by
  have h1 : (m * k) % n < n := Nat.mod_lt _ (by omega)
  have e : (m * k : Nat) = n * ((m * k) / n) + (m * k) % n := (Nat.div_add_mod _ _).symm
  have e1 : odd (m * k) = odd k := by rw [odd_mul]; simp [odd, hm]
  have e2 : odd (m * k) = xor (odd ((m * k) / n)) (odd ((m * k) % n)) := by
    rw [e, odd_add, odd_mul, ← e]
    simp [odd, ho]
  rw [← e1, e2]
  congr 1
  unfold pi
  cases h : neg m n k
  · simp
  · simp only [if_true]
    have hs : odd (n - m * k % n) = !(odd (m * k % n)) := by
      unfold odd
      generalize (m * k) % n = v at *
      rcases Nat.mod_two_eq_zero_or_one v with z | z <;> simp [z] <;> omega
    rw [hs]; simp
theorem mu_floor {m n : Nat} (hm : m % 2 = 1) (ho : n % 2 = 1) (hc : Nat.Coprime m n) : mu m n = sg (fun k => odd ((m * k) / n)) (half n) := by
  have h1 : sg odd (half n) = xor (sg (fun k => odd ((m * k) / n)) (half n)) (xor (mu m n) (sg odd (half n))) := by
    have : sg odd (half n) = sg (fun k => xor (odd ((m * k) / n)) (xor (neg m n k) (odd (pi m n k)))) (half n) := sg_congr fun k _ => par_step hm ho
    rw [sg_xor, sg_xor, ← sg_map odd (pi m n), sg_perm (pi_perm ho hc)] at this
    exact this
  revert h1
  cases mu m n <;> cases sg (fun k => odd ((m * k) / n)) (half n) <;> cases sg odd (half n) <;> simp
theorem sg_append (f : Nat → Bool) : ∀ l l' : List Nat, sg f (l ++ l') = xor (sg f l) (sg f l')
  | [], l' => by simp [sg]
  | a :: r, l' => by
    have := sg_append f r l'
    simp only [sg, List.cons_append, List.foldr_cons] at this ⊢
    rw [this]; simp
theorem sg_le : ∀ (h q : Nat), q ≤ h → sg (fun j => decide (j ≤ q)) (List.range' 1 h) = odd q
  | 0, q, hq => by
    have : q = 0 := by omega
    subst this; rfl
  | h + 1, q, hq => by
    rw [List.range'_concat, sg_append]
    rcases Nat.lt_or_ge q (h + 1) with z | z
    · rw [sg_le h q (by omega)]
      have : ¬ (1 + h ≤ q) := by omega
      simp [sg, this]
    · have e : q = h + 1 := by omega
      subst e
      have : sg (fun j => decide (j ≤ h + 1)) (List.range' 1 h) = sg (fun j => decide (j ≤ h)) (List.range' 1 h) := sg_congr fun x hx => by
        rw [List.mem_range'_1] at hx
        have a1 : x ≤ h := by omega
        have a2 : x ≤ h + 1 := by omega
        simp [a1, a2]
      rw [this, sg_le h h (Nat.le_refl _), odd_add]
      have : 1 + h ≤ h + 1 := by omega
      simp [sg, this, odd]
theorem floor_sg {m n k : Nat} (hm : m % 2 = 1) (ho : n % 2 = 1) (hc : Nat.Coprime m n) (hk : k ∈ half n) : odd ((m * k) / n) = sg (fun j => decide (n * j < m * k)) (half m) := by
  have hk' := mem_half.mp hk
  have hq : (m * k) / n ≤ (m - 1) / 2 := by
    have h1 : m * k / n < (m - 1) / 2 + 1 := by
      rw [Nat.div_lt_iff_lt_mul (by omega)]
      have h2 : 2 * (m * k) ≤ m * (n - 1) := by
        have : 2 * (m * k) = m * (2 * k) := by rw [Nat.mul_left_comm]
        rw [this]
        exact Nat.mul_le_mul_left m (by omega)
      have h3 : m * (n - 1) < m * n := Nat.mul_lt_mul_of_pos_left (by omega) (by omega)
      have h4 : 2 * (((m - 1) / 2 + 1) * n) = (m + 1) * n := by
        rw [← Nat.mul_assoc]
        congr 1; omega
      have h5 : (m + 1) * n = m * n + n := Nat.succ_mul m n
      omega
    omega
  unfold half
  rw [← sg_le _ _ hq]
  refine sg_congr fun j hj => ?_
  have : (j ≤ m * k / n) ↔ (n * j < m * k) := by
    rw [Nat.le_div_iff_mul_le (by omega), Nat.mul_comm j n]
    constructor
    · intro h
      rcases Nat.lt_or_ge (n * j) (m * k) with z | z
      · exact z
      · have e : n * j = m * k := by omega
        have : n ∣ m * k := ⟨j, e.symm⟩
        have := (Nat.Coprime.symm hc).dvd_of_dvd_mul_left this
        have := Nat.le_of_dvd hk'.1 this
        omega
    · omega
  simp [this]
theorem sg_swap (f : Nat → Nat → Bool) (l' : List Nat) : ∀ l : List Nat, sg (fun k => sg (fun j => f k j) l') l = sg (fun j => sg (fun k => f k j) l) l'
  | [] => by
    show false = _
    induction l' with
    | nil => rfl
    | cons a r ih => simp only [sg, List.foldr_cons, List.foldr_nil] at ih ⊢; rw [← ih]; rfl
  | a :: r => by
    have ih := sg_swap f l' r
    have e : sg (fun j => sg (fun k => f k j) (a :: r)) l' = sg (fun j => xor (f a j) (sg (fun k => f k j) r)) l' := rfl
    rw [e, sg_xor, ← ih]; rfl
theorem sg_true : ∀ l : List Nat, sg (fun _ => true) l = odd l.length
  | [] => rfl
  | a :: r => by
    have := sg_true r
    simp only [sg, List.foldr_cons, List.length_cons] at this ⊢
    rw [this, odd_add]; simp [odd]
theorem half_len (n : Nat) : (half n).length = (n - 1) / 2 := by unfold half; simp
theorem recip {m n : Nat} (hm : m % 2 = 1) (ho : n % 2 = 1) (hc : Nat.Coprime m n) : xor (mu m n) (mu n m) = (odd ((m - 1) / 2) && odd ((n - 1) / 2)) := by
  have e1 : mu m n = sg (fun k => sg (fun j => decide (n * j < m * k)) (half m)) (half n) := by
    rw [mu_floor hm ho hc]; exact sg_congr fun k hk => floor_sg hm ho hc hk
  have e2 : mu n m = sg (fun j => sg (fun k => decide (m * k < n * j)) (half n)) (half m) := by
    rw [mu_floor ho hm (Nat.Coprime.symm hc)]; exact sg_congr fun k hk => floor_sg ho hm (Nat.Coprime.symm hc) hk
  rw [e1, e2, ← sg_swap (fun k j => decide (m * k < n * j)), ← sg_xor]
  have : sg (fun k => xor (sg (fun j => decide (n * j < m * k)) (half m)) (sg (fun j => decide (m * k < n * j)) (half m))) (half n) = sg (fun _ => odd ((m - 1) / 2)) (half n) := by
    refine sg_congr fun k hk => ?_
    rw [← sg_xor]
    rw [← half_len m, ← sg_true]
    refine sg_congr fun j hj => ?_
    have hk' := mem_half.mp hk
    have ne : n * j ≠ m * k := fun e => by
      have : n ∣ m * k := ⟨j, e.symm⟩
      have := (Nat.Coprime.symm hc).dvd_of_dvd_mul_left this
      have := Nat.le_of_dvd hk'.1 this
      omega
    rcases Nat.lt_or_ge (n * j) (m * k) with z | z
    · have : ¬ (m * k < n * j) := by omega
      simp [z, this]
    · have a : ¬ (n * j < m * k) := by omega
      have b : m * k < n * j := by omega
      simp [a, b]
  rw [this]
  have cst : ∀ (b : Bool) (l : List Nat), sg (fun _ => b) l = (b && odd l.length) := fun b l => by
    cases b
    · simp
      induction l with
      | nil => rfl
      | cons a r ih => simpa [sg] using ih
    · simp; exact sg_true l
  rw [cst, half_len]
theorem mu_two {n : Nat} (ho : n % 2 = 1) : mu 2 n = decide (n % 8 = 3 ∨ n % 8 = 5) := by
  have e : mu 2 n = xor (sg (fun _ => true) (half n)) (sg (fun j => decide (j ≤ n / 4)) (half n)) := by
    unfold mu
    rw [← sg_xor]
    refine sg_congr fun k hk => ?_
    have hk' := mem_half.mp hk
    unfold neg
    rw [Nat.mod_eq_of_lt (show 2 * k < n by omega)]
    by_cases z : n < 2 * (2 * k)
    · have : ¬ k ≤ n / 4 := by omega
      simp [z, this]
    · have : k ≤ n / 4 := by omega
      simp [z, this]
  rw [e, sg_true, half_len]
  unfold half
  rw [sg_le _ _ (by omega)]
  unfold odd
  have h8 : n % 8 = 1 ∨ n % 8 = 3 ∨ n % 8 = 5 ∨ n % 8 = 7 := by omega
  rcases h8 with h | h | h | h
  · have a : ((n - 1) / 2) % 2 = 0 := by omega
    have b : (n / 4) % 2 = 0 := by omega
    simp [a, b, h]
  · have a : ((n - 1) / 2) % 2 = 1 := by omega
    have b : (n / 4) % 2 = 0 := by omega
    simp [a, b, h]
  · have a : ((n - 1) / 2) % 2 = 0 := by omega
    have b : (n / 4) % 2 = 1 := by omega
    simp [a, b, h]
  · have a : ((n - 1) / 2) % 2 = 1 := by omega
    have b : (n / 4) % 2 = 1 := by omega
    simp [a, b, h]
theorem mu_neg {n : Nat} (ho : n % 2 = 1) : mu (n - 1) n = odd ((n - 1) / 2) := by
  unfold mu
  rw [← half_len, ← sg_true]
  refine sg_congr fun k hk => ?_
  have hk' := mem_half.mp hk
  unfold neg
  have : ((n - 1) * k) % n = n - k := by
    have e : (n - 1) * k = n * (k - 1) + (n - k) := by
      have h1 : n * k = n * (k - 1) + n := by
        rw [← Nat.mul_succ]; congr 1; omega
      have h2 : (n - 1) * k = n * k - k := by rw [Nat.sub_mul]; simp
      omega
    rw [e, Nat.mul_add_mod, Nat.mod_eq_of_lt (by omega)]
  rw [this]
  have : n < 2 * (n - k) := by omega
  simp [this]
theorem mu_one {n : Nat} (ho : n % 2 = 1) : mu 1 n = false := by
  unfold mu
  have : sg (neg 1 n) (half n) = sg (fun _ => false) (half n) := sg_congr fun k hk => by
    have hk' := mem_half.mp hk
    unfold neg
    rw [Nat.one_mul, Nat.mod_eq_of_lt (by omega)]
    have : ¬ n < 2 * k := by omega
    simp [this]
  rw [this]
  generalize half n = l
  induction l with
  | nil => rfl
  | cons a r ih => simpa [sg] using ih

/-! ### the symbol of an integer by an odd number -/
def rs (t : Int) (n : Nat) : Nat := (t % (n : Int)).toNat
theorem rs_cast {t : Int} {n : Nat} (hn : 0 < n) : ((rs t n : Nat) : Int) = t % (n : Int) := by
  unfold rs
  exact Int.toNat_of_nonneg (Int.emod_nonneg _ (by omega))
theorem rs_lt {t : Int} {n : Nat} (hn : 0 < n) : rs t n < n := by
  have := Int.emod_lt_of_pos t (show (0 : Int) < n by omega)
  have := rs_cast (t := t) hn
  omega
theorem rs_nat (a n : Nat) : rs (a : Int) n = a % n := by
  unfold rs; rw [← Int.natCast_emod, Int.toNat_natCast]
def bs (b : Bool) : Int := if b then -1 else 1
theorem bs_xor (a b : Bool) : bs (xor a b) = bs a * bs b := by cases a <;> cases b <;> rfl
def jac (t : Int) (n : Nat) : Int := if Nat.gcd (rs t n) n = 1 then bs (mu (rs t n) n) else 0
theorem gcd_mod' (a n : Nat) : Nat.gcd (a % n) n = Nat.gcd a n := by rw [Nat.gcd_comm a n, Nat.gcd_rec n a]
theorem jac_nat {a n : Nat} : jac (a : Int) n = if Nat.gcd a n = 1 then bs (mu a n) else 0 := by
  unfold jac
  rw [rs_nat]
  have h := gcd_mod' a n
  by_cases hc : Nat.gcd a n = 1
  · rw [if_pos hc, if_pos (h.trans hc), mu_mod]
  · rw [if_neg hc, if_neg fun z => hc (h.symm.trans z)]

theorem rs_mul (s t : Int) (n : Nat) (hn : 0 < n) : rs (s * t) n = (rs s n * rs t n) % n := by
  have h : ((rs (s * t) n : Nat) : Int) = (((rs s n * rs t n) % n : Nat) : Int) := by
    rw [rs_cast hn, Int.natCast_emod, Int.natCast_mul, rs_cast hn, rs_cast hn, ← Int.mul_emod]
  exact_mod_cast h
theorem jac_cong {s t : Int} {n : Nat} (h : s % (n : Int) = t % (n : Int)) : jac s n = jac t n := by
  unfold jac rs; rw [h]
theorem jac_rs (t : Int) {n : Nat} (hn : 0 < n) : jac t n = jac ((rs t n : Nat) : Int) n := jac_cong (by rw [rs_cast hn, Int.emod_emod])
theorem jac_mul {s t : Int} {n : Nat} (ho : n % 2 = 1) : jac (s * t) n = jac s n * jac t n := by
  have hn : 0 < n := by omega
  rw [jac_rs s hn, jac_rs t hn, jac_cong (t := ((rs s n * rs t n : Nat) : Int)) (by rw [Int.natCast_mul, rs_cast hn, rs_cast hn, ← Int.mul_emod])]
  generalize rs s n = a
  generalize rs t n = b
  rw [jac_nat, jac_nat, jac_nat]
  by_cases ha : Nat.gcd a n = 1
  · by_cases hb : Nat.gcd b n = 1
    · rw [if_pos ha, if_pos hb, if_pos (Nat.Coprime.mul_left ha hb), mu_mul ho ha hb, bs_xor]
    · rw [if_neg hb, if_neg fun h => hb (Nat.Coprime.coprime_mul_left h)]; simp
  · rw [if_neg ha, if_neg fun h => ha (Nat.Coprime.coprime_mul_right h)]; simp
theorem jac_odd {a n : Nat} (ha : a % 2 = 1) (ho : n % 2 = 1) : jac (a : Int) n = jac (n : Int) a * bs (odd ((a - 1) / 2) && odd ((n - 1) / 2)) := by
  rw [jac_nat, jac_nat]
  by_cases hc : Nat.gcd a n = 1
  · rw [if_pos hc, if_pos (by rw [Nat.gcd_comm]; exact hc), ← recip ha ho hc, bs_xor]
    cases mu a n <;> cases mu n a <;> rfl
  · rw [if_neg hc, if_neg (by rw [Nat.gcd_comm]; exact hc)]; simp
theorem jac_zero {n : Nat} : jac 0 n = if n = 1 then 1 else 0 := by
  have := jac_nat (a := 0) (n := n)
  simp at this
  rw [this]
  by_cases h : n = 1
  · subst h; rfl
  · simp [h]
theorem jac_one {n : Nat} (ho : n % 2 = 1) : jac 1 n = 1 := by
  have := jac_nat (a := 1) (n := n)
  simp at this
  rw [this, mu_one ho]; rfl
theorem jac_two {n : Nat} (ho : n % 2 = 1) : jac 2 n = if n % 8 = 1 ∨ n % 8 = 7 then 1 else -1 := by
  have := jac_nat (a := 2) (n := n)
  have hc : Nat.gcd 2 n = 1 := by
    rw [Nat.gcd_rec, ho]; rfl
  rw [if_pos hc, mu_two ho] at this
  have e : ((2 : Nat) : Int) = 2 := rfl
  rw [e] at this
  rw [this]
  have h8 : n % 8 = 1 ∨ n % 8 = 3 ∨ n % 8 = 5 ∨ n % 8 = 7 := by omega
  rcases h8 with h | h | h | h <;> simp [h, bs]
theorem jac_neg {n : Nat} (ho : n % 2 = 1) : jac (-1) n = if n % 4 = 1 then 1 else -1 := by
  have h1 : jac (-1) n = jac ((n - 1 : Nat) : Int) n := jac_cong (by
    have : ((n - 1 : Nat) : Int) = -1 + n * 1 := by omega
    rw [this, Int.add_mul_emod_self_left])
  have hc : Nat.gcd (n - 1) n = 1 := by
    have : Nat.gcd (n - 1) n = Nat.gcd (n - 1) (n - 1 + 1) := by congr 1; omega
    rw [this]; simp
  rw [h1, jac_nat, if_pos hc, mu_neg ho]
  unfold odd
  have h4 : n % 4 = 1 ∨ n % 4 = 3 := by omega
  rcases h4 with h | h
  · have : ((n - 1) / 2) % 2 = 0 := by omega
    simp [this, h, bs]
  · have : ((n - 1) / 2) % 2 = 1 := by omega
    simp [this, h, bs]
theorem odd_half {m n : Nat} (hm : m % 2 = 1) (ho : n % 2 = 1) : odd ((m * n - 1) / 2) = xor (odd ((m - 1) / 2)) (odd ((n - 1) / 2)) := by
  have hm' : m = 2 * ((m - 1) / 2) + 1 := by omega
  have hn' : n = 2 * ((n - 1) / 2) + 1 := by omega
  generalize (m - 1) / 2 = x at *
  generalize (n - 1) / 2 = y at *
  subst hm' hn'
  have : (2 * x + 1) * (2 * y + 1) = 2 * (2 * (x * y) + (x + y)) + 1 := by grind
  rw [this, ← odd_add]
  have : (2 * (2 * (x * y) + (x + y)) + 1 - 1) / 2 = 2 * (x * y) + (x + y) := by omega
  rw [this, odd_add]
  simp [odd]
theorem odd_rep (t : Int) {n : Nat} (ho : n % 2 = 1) : ∃ a : Nat, a % 2 = 1 ∧ (a : Int) % n = t % n := by
  have hn : 0 < n := by omega
  have hr := rs_cast (t := t) hn
  by_cases h : rs t n % 2 = 1
  · exact ⟨rs t n, h, by rw [hr, Int.emod_emod]⟩
  · refine ⟨rs t n + n, by omega, ?_⟩
    rw [Int.natCast_add, hr, Int.add_emod_right, Int.emod_emod]
theorem jac_mul_right {t : Int} {m n : Nat} (hm : m % 2 = 1) (ho : n % 2 = 1) : jac t (m * n) = jac t m * jac t n := by
  have hmn : (m * n) % 2 = 1 := by rw [Nat.mul_mod, hm, ho]
  obtain ⟨a, ha, e⟩ := odd_rep t hmn
  have em : t % (m : Int) = (a : Int) % m := by
    rw [← Int.emod_emod_of_dvd t (show (m : Int) ∣ ((m * n : Nat) : Int) from ⟨n, by simp⟩), ← e, Int.emod_emod_of_dvd]
    exact ⟨n, by simp⟩
  have en : t % (n : Int) = (a : Int) % n := by
    rw [← Int.emod_emod_of_dvd t (show (n : Int) ∣ ((m * n : Nat) : Int) from ⟨m, by rw [Nat.mul_comm]; simp⟩), ← e, Int.emod_emod_of_dvd]
    exact ⟨m, by rw [Nat.mul_comm]; simp⟩
  rw [jac_cong e.symm, jac_cong em, jac_cong en, jac_odd ha hmn, jac_odd ha hm, jac_odd ha ho, Int.natCast_mul, jac_mul ha, odd_half hm ho]
  cases odd ((a - 1) / 2) <;> cases odd ((m - 1) / 2) <;> cases odd ((n - 1) / 2) <;> simp [bs, Int.neg_mul, Int.mul_neg]
theorem gcd_emod_left (t : Int) (n : Int) : Int.gcd (t % n) n = Int.gcd t n := by
  have h := Int.gcd_mul_left_add_left n (t % n) (t / n)
  rw [Int.mul_ediv_add_emod] at h
  exact h.symm
theorem gcd_two_mul {t : Int} {c : Nat} : Int.gcd t ((2 : Int) * (c : Int)) = 1 ↔ (Int.gcd t 2 = 1 ∧ Int.gcd t c = 1) := by
  unfold Int.gcd
  rw [Int.natAbs_mul]
  constructor
  · intro h
    exact ⟨Nat.Coprime.coprime_mul_right_right h, Nat.Coprime.coprime_mul_left_right h⟩
  · intro h
    exact Nat.Coprime.mul_right h.1 h.2
theorem jac_coprime {t : Int} {n : Nat} (hn : 0 < n) : Nat.gcd (rs t n) n = Int.gcd t n := by
  have h : Int.gcd ((rs t n : Nat) : Int) n = Int.gcd t n := by
    rw [rs_cast hn, gcd_emod_left]
  rw [← h]; rfl
theorem jac_ne {t : Int} {n : Nat} (hn : 0 < n) (h : Int.gcd t n ≠ 1) : jac t n = 0 := by
  unfold jac
  rw [if_neg]
  rw [jac_coprime hn]; exact h
theorem jac_pm {t : Int} {n : Nat} (hn : 0 < n) (h : Int.gcd t n = 1) : jac t n = 1 ∨ jac t n = -1 := by
  unfold jac
  rw [if_pos (by rw [jac_coprime hn]; exact h)]
  cases mu (rs t n) n
  · left; rfl
  · right; rfl
/-! ### by any number from 1 on -/
def s2 (t : Int) : Int := if t % 2 = 0 then 0 else if t % 8 = 1 ∨ t % 8 = 7 then 1 else -1
theorem s2_mul (s t : Int) : s2 (s * t) = s2 s * s2 t := by
  have e : (s * t) % 8 = ((s % 8) * (t % 8)) % 8 := Int.mul_emod s t 8
  have h2 : ∀ x : Int, x % 2 = (x % 8) % 2 := fun x => by omega
  unfold s2
  rw [h2 (s * t), h2 s, h2 t, e]
  have hs : s % 8 = 0 ∨ s % 8 = 1 ∨ s % 8 = 2 ∨ s % 8 = 3 ∨ s % 8 = 4 ∨ s % 8 = 5 ∨ s % 8 = 6 ∨ s % 8 = 7 := by omega
  have ht : t % 8 = 0 ∨ t % 8 = 1 ∨ t % 8 = 2 ∨ t % 8 = 3 ∨ t % 8 = 4 ∨ t % 8 = 5 ∨ t % 8 = 6 ∨ t % 8 = 7 := by omega
  rcases hs with h | h | h | h | h | h | h | h <;> rcases ht with h' | h' | h' | h' | h' | h' | h' | h' <;> rw [h, h'] <;> rfl
theorem jac_two' {n : Nat} (ho : n % 2 = 1) : jac 2 n = s2 n := by
  rw [jac_two ho]
  unfold s2
  have : ¬ ((n : Int) % 2 = 0) := by omega
  rw [if_neg this]
  by_cases h : n % 8 = 1 ∨ n % 8 = 7
  · rw [if_pos h, if_pos (by omega)]
  · rw [if_neg h, if_neg (by omega)]
def kr (t : Int) (b : Nat) : Int := if b = 0 then 0 else if b % 2 = 0 then s2 t * kr t (b / 2) else jac t b
termination_by b
decreasing_by omega
theorem kr_even {t : Int} {b : Nat} (h0 : 0 < b) (h : b % 2 = 0) : kr t b = s2 t * kr t (b / 2) := by
  rw [kr, if_neg (by omega), if_pos h]
theorem kr_odd {t : Int} {b : Nat} (h : b % 2 = 1) : kr t b = jac t b := by
  rw [kr, if_neg (by omega), if_neg (by omega)]
theorem kr_mul : ∀ {b : Nat} {s t : Int}, 0 < b → kr (s * t) b = kr s b * kr t b := by
  intro b
  induction b using Nat.strongRecOn with
  | ind b ih =>
    intro s t h0
    rcases Nat.mod_two_eq_zero_or_one b with h | h
    · rw [kr_even h0 h, kr_even h0 h, kr_even h0 h, ih (b / 2) (by omega) (by omega), s2_mul]
      grind
    · rw [kr_odd h, kr_odd h, kr_odd h, jac_mul h]
theorem kr_mul_right : ∀ {b : Nat} {c : Nat} {t : Int}, 0 < b → 0 < c → kr t (b * c) = kr t b * kr t c := by
  intro b
  induction b using Nat.strongRecOn with
  | ind b ih =>
    intro c t h0 h1
    rcases Nat.mod_two_eq_zero_or_one b with h | h
    · have e : b * c / 2 = b / 2 * c := by
        have : b = 2 * (b / 2) := by omega
        rw [this, Nat.mul_assoc, Nat.mul_div_cancel_left _ (by omega)]
        congr 1; omega
      rw [kr_even (Nat.mul_pos h0 h1) (by rw [Nat.mul_mod, h]; simp), e, ih (b / 2) (by omega) (by omega) h1, kr_even h0 h, Int.mul_assoc]
    · revert t h1
      induction c using Nat.strongRecOn with
      | ind c ihc =>
        intro t h1
        rcases Nat.mod_two_eq_zero_or_one c with h' | h'
        · have e : b * c / 2 = b * (c / 2) := by
            have : c = 2 * (c / 2) := by omega
            rw [this, Nat.mul_left_comm, Nat.mul_div_cancel_left _ (by omega)]
            congr 1; omega
          rw [kr_even (Nat.mul_pos h0 h1) (by rw [Nat.mul_mod, h']; simp), e, ihc (c / 2) (by omega) (by omega), kr_even h1 h']
          grind
        · rw [kr_odd h, kr_odd h', kr_odd (by rw [Nat.mul_mod, h, h']), jac_mul_right h h']
theorem kr_per : ∀ {b : Nat} {t q : Int}, 0 < b → kr (t + b * 8 * q) b = kr t b := by
  intro b
  induction b using Nat.strongRecOn with
  | ind b ih =>
    intro t q h0
    rcases Nat.mod_two_eq_zero_or_one b with h | h
    · have e : t + (b : Int) * 8 * q = t + ((b / 2 : Nat) : Int) * 8 * (2 * q) := by
        have : (b : Int) = 2 * ((b / 2 : Nat) : Int) := by omega
        rw [this]; grind
      rw [kr_even h0 h, kr_even h0 h]
      have h8 : (t + (b : Int) * 8 * q) % 8 = t % 8 := by
        have : t + (b : Int) * 8 * q = t + 8 * (b * q) := by grind
        rw [this, Int.add_mul_emod_self_left]
      have es : s2 (t + (b : Int) * 8 * q) = s2 t := by
        have h2 : ∀ x : Int, x % 2 = (x % 8) % 2 := fun x => by omega
        unfold s2
        rw [h2 (t + (b : Int) * 8 * q), h2 t, h8]
      rw [es, e, ih (b / 2) (by omega) (by omega)]
    · rw [kr_odd h, kr_odd h]
      refine jac_cong ?_
      have : t + (b : Int) * 8 * q = t + b * (8 * q) := by grind
      rw [this, Int.add_mul_emod_self_left]
theorem kr_zero_one : ∀ {b : Nat} {t : Int}, 0 < b → (Int.gcd t b = 1 → kr t b = 1 ∨ kr t b = -1) ∧ (Int.gcd t b ≠ 1 → kr t b = 0) := by
  intro b
  induction b using Nat.strongRecOn with
  | ind b ih =>
    intro t h0
    rcases Nat.mod_two_eq_zero_or_one b with h | h
    · rw [kr_even h0 h]
      obtain ⟨i1, i2⟩ := ih (b / 2) (by omega) (t := t) (by omega)
      have e : Int.gcd t b = 1 ↔ (Int.gcd t ((b / 2 : Nat) : Int) = 1 ∧ t % 2 ≠ 0) := by
        have hb : (b : Int) = 2 * ((b / 2 : Nat) : Int) := by omega
        have h2 : Int.gcd t 2 = 1 ↔ t % 2 ≠ 0 := by
          rw [← gcd_emod_left]
          rcases Int.emod_two_eq t with z | z <;> rw [z] <;> decide
        rw [hb, gcd_two_mul, h2]
        exact And.comm
      constructor
      · intro hc
        obtain ⟨c1, c2⟩ := e.mp hc
        have : s2 t = 1 ∨ s2 t = -1 := by
          unfold s2; rw [if_neg c2]; split <;> simp
        rcases this with z | z <;> rcases i1 c1 with y | y <;> rw [z, y] <;> simp
      · intro hc
        by_cases c2 : t % 2 = 0
        · have : s2 t = 0 := by unfold s2; rw [if_pos c2]
          rw [this]; simp
        · rw [i2 fun c1 => hc (e.mpr ⟨c1, c2⟩)]; simp
    · rw [kr_odd h]
      exact ⟨jac_pm h0, jac_ne h0⟩

theorem kr_sq {t : Int} {b : Nat} (h0 : 0 < b) : kr (t * t) b = if Int.gcd t b = 1 then 1 else 0 := by
  rw [kr_mul h0]
  obtain ⟨i1, i2⟩ := kr_zero_one (t := t) h0
  by_cases h : Int.gcd t b = 1
  · rw [if_pos h]; rcases i1 h with z | z <;> rw [z] <;> rfl
  · rw [if_neg h, i2 h]; rfl
/-! ### primes -/
def Pr (p : Nat) : Prop := 2 ≤ p ∧ ∀ q, 2 ≤ q → q < p → p % q ≠ 0
theorem pr_cop {p a : Nat} (hp : Pr p) (h : ¬ p ∣ a) : Nat.Coprime a p := by
  have hd : Nat.gcd a p ∣ p := Nat.gcd_dvd_right a p
  have hl := Nat.le_of_dvd (by have := hp.1; omega) hd
  rcases Nat.lt_or_ge (Nat.gcd a p) 2 with z | z
  · have : 0 < Nat.gcd a p := Nat.gcd_pos_of_pos_right a (by have := hp.1; omega)
    show Nat.gcd a p = 1
    omega
  · rcases Nat.lt_or_ge (Nat.gcd a p) p with y | y
    · exact absurd (Nat.mod_eq_zero_of_dvd hd) (hp.2 _ z y)
    · have e : Nat.gcd a p = p := by omega
      exact absurd (e ▸ Nat.gcd_dvd_left a p) h
theorem pr_euclid {p a b : Nat} (hp : Pr p) (h : p ∣ a * b) : p ∣ a ∨ p ∣ b := by
  by_cases ha : p ∣ a
  · exact .inl ha
  · exact .inr ((Nat.Coprime.symm (pr_cop hp ha)).dvd_of_dvd_mul_left h)
def R (p : Nat) : List Nat := List.range' 1 (p - 1)
theorem mem_R {p k : Nat} (hp : 2 ≤ p) : k ∈ R p ↔ 1 ≤ k ∧ k < p := by
  unfold R; rw [List.mem_range'_1]; omega
theorem mulg_perm {p g : Nat} (hp : Pr p) (hg : ¬ p ∣ g) : ((R p).map fun x => (g * x) % p).Perm (R p) := by
  have h2 := hp.1
  refine perm_map (List.nodup_range' 1) (fun x hx => ?_) fun x hx y hy e => ?_
  · have hx := (mem_R h2).mp hx
    exact (mem_R h2).mpr ⟨res_pos (pr_cop hp hg) hx.1 hx.2, Nat.mod_lt _ (by omega)⟩
  · have hx := (mem_R h2).mp hx
    have hy := (mem_R h2).mp hy
    have e' : ((g * x : Nat) : Int) % p = ((g * y : Nat) : Int) % p := by exact_mod_cast e
    have hd : (p : Int) ∣ (g : Int) * ((x : Int) - y) := by
      have := Int.dvd_of_emod_eq_zero (Int.emod_eq_emod_iff_emod_sub_eq_zero.mp e')
      rw [Int.mul_sub]
      simpa using this
    have hd' := coprime_dvd (pr_cop hp hg) hd
    rcases Int.lt_trichotomy ((x : Int) - y) 0 with z | z | z
    · have := Int.le_of_dvd (a := p) (b := (y : Int) - x) (by omega) (by rw [show (y : Int) - x = -((x : Int) - y) by omega]; exact Int.dvd_neg.mpr hd')
      omega
    · omega
    · have := Int.le_of_dvd (by omega) hd'
      omega
theorem jac_pm_nat {p k : Nat} (hp : Pr p) (hk : k ∈ R p) : jac (k : Int) p = 1 ∨ jac (k : Int) p = -1 := by
  have h2 := hp.1
  have hk := (mem_R h2).mp hk
  refine jac_pm (by omega) ?_
  have : Nat.Coprime k p := pr_cop hp fun hd => by have := Nat.le_of_dvd (by omega) hd; omega
  exact this
theorem plus_len {p g : Nat} (hp : Pr p) (ho : p % 2 = 1) (hg : jac (g : Int) p = -1) : ((R p).filter fun k : Nat => decide (jac (k : Int) p = 1)).length = (p - 1) / 2 := by
  have h2 := hp.1
  have ng : ¬ p ∣ g := fun hd => by
    have e : jac (g : Int) p = jac 0 p := jac_cong (by
      have : (p : Int) ∣ (g : Int) := Int.ofNat_dvd.mpr hd
      rw [Int.emod_eq_zero_of_dvd this]; simp)
    rw [e, jac_zero, if_neg (by omega)] at hg
    exact absurd hg (by decide)
  have c1 : (R p).countP (fun k : Nat => decide (jac (k : Int) p = 1)) = (R p).countP (fun k : Nat => decide (jac (k : Int) p = -1)) := by
    rw [← (mulg_perm hp ng).countP_eq, List.countP_map]
    refine List.countP_congr fun x hx => ?_
    have e : jac (((g * x) % p : Nat) : Int) p = - jac (x : Int) p := by
      rw [jac_cong (t := ((g : Int) * x)) (by rw [Int.natCast_emod, Int.emod_emod, Int.natCast_mul]), jac_mul ho, hg]; omega
    simp only [Function.comp, decide_eq_true_eq]
    rw [e]
    omega
  have c2 : (R p).countP (fun k : Nat => decide (jac (k : Int) p = -1)) = (R p).countP (fun k : Nat => !decide (jac (k : Int) p = 1)) := by
    refine List.countP_congr fun x hx => ?_
    rcases jac_pm_nat hp hx with z | z <;> rw [z] <;> decide
  have c3 := List.length_eq_countP_add_countP (fun k : Nat => decide (jac (k : Int) p = 1)) (l := R p)
  rw [← List.countP_eq_length_filter]
  have hl : (R p).length = p - 1 := by unfold R; simp
  have c4 : (R p).countP (fun k : Nat => decide (¬ (decide (jac (k : Int) p = 1)) = true)) = (R p).countP (fun k : Nat => !decide (jac (k : Int) p = 1)) := List.countP_congr fun x hx => by simp
  omega
theorem sq_mem {p t : Nat} {g : Nat} (hp : Pr p) (ho : p % 2 = 1) (hg : jac (g : Int) p = -1) (ht : t ∈ R p) (h : jac (t : Int) p = 1) : ∃ x, 1 ≤ x ∧ x < p ∧ (x * x) % p = t := by
  have h2 := hp.1
  have hP : (((half p).map fun x => (x * x) % p)).Perm ((R p).filter fun k : Nat => decide (jac (k : Int) p = 1)) := by
    refine perm_of_sub ?_ (fun y hy => ?_) (by rw [plus_len hp ho hg]; simp [half_len])
    · unfold List.Nodup
      rw [List.pairwise_map]
      refine List.Pairwise.imp_of_mem (fun {x y} hx hy ne e => ne ?_) (nodup_half p)
      have hx := mem_half.mp hx
      have hy := mem_half.mp hy
      have e' : ((x * x : Nat) : Int) % p = ((y * y : Nat) : Int) % p := by exact_mod_cast e
      have hd := Int.dvd_of_emod_eq_zero (Int.emod_eq_emod_iff_emod_sub_eq_zero.mp e')
      have e3 : ((x * x : Nat) : Int) - ((y * y : Nat) : Int) = ((x : Int) - y) * ((x : Int) + y) := by
        simp only [Int.natCast_mul]; grind
      rw [e3] at hd
      have hd2 : p ∣ ((x : Int) - y).natAbs * ((x : Int) + y).natAbs := by
        rw [← Int.natAbs_mul]; exact Int.ofNat_dvd_left.mp hd
      rcases pr_euclid hp hd2 with z | z
      · rcases Nat.eq_zero_or_pos ((x : Int) - y).natAbs with w | w
        · omega
        · have := Nat.le_of_dvd w z; omega
      · have := Nat.le_of_dvd (by omega) z; omega
    · obtain ⟨x, hx, rfl⟩ := List.mem_map.mp hy
      have hx := mem_half.mp hx
      have nd : ¬ p ∣ x := fun hd => by have := Nat.le_of_dvd (by omega) hd; omega
      refine List.mem_filter.mpr ⟨(mem_R h2).mpr ⟨res_pos (pr_cop hp nd) hx.1 (by omega), Nat.mod_lt _ (by omega)⟩, ?_⟩
      have e : jac (((x * x) % p : Nat) : Int) p = jac (x : Int) p * jac (x : Int) p := by
        rw [jac_cong (t := ((x : Int) * x)) (by rw [Int.natCast_emod, Int.emod_emod, Int.natCast_mul]), jac_mul ho]
      rw [e]
      rcases jac_pm_nat hp ((mem_R h2).mpr ⟨hx.1, by omega⟩) with z | z <;> rw [z] <;> decide
  have : t ∈ (half p).map fun x => (x * x) % p := hP.mem_iff.mpr (List.mem_filter.mpr ⟨ht, by simp [h]⟩)
  obtain ⟨x, hx, e⟩ := List.mem_map.mp this
  have hx := mem_half.mp hx
  exact ⟨x, hx.1, by omega, e⟩
/-! ### a number that is no square, for the primes below 2000 -/
def hasNon (n : Nat) : Bool := [3, 5, 7, 11, 13, 17, 19, 23].any fun q => mu (n % q) q && (Nat.gcd (n % q) q == 1)
def small8 : List Nat := (List.range 250).map fun k => 8 * k + 1
theorem non_small : small8.all (fun n => hasNon n || (List.range 45).any (fun x => (x * x == n)) || [7, 11, 13].any (fun q => n % q == 0 && n != q)) = true := by decide +kernel
theorem non_exists {p : Nat} (hp : Pr p) (ho : p % 2 = 1) (h : p < 2000) : ∃ g : Nat, jac (g : Int) p = -1 := by
  have h2 := hp.1
  have h8 : p % 8 = 1 ∨ p % 8 = 3 ∨ p % 8 = 5 ∨ p % 8 = 7 := by omega
  have two : ∀ p : Nat, p % 2 = 1 → p % 8 = 3 ∨ p % 8 = 5 → jac ((2 : Nat) : Int) p = -1 := fun p ho z => by
    show jac 2 p = -1
    rw [jac_two ho, if_neg (by omega)]
  rcases h8 with z | z | z | z
  · have hm : p ∈ small8 := List.mem_map.mpr ⟨p / 8, by rw [List.mem_range]; omega, by omega⟩
    have := List.all_eq_true.mp non_small p hm
    rcases Bool.or_eq_true_iff.mp this with w | w
    · rcases Bool.or_eq_true_iff.mp w with w | w
      · obtain ⟨q, hq, e⟩ := List.any_eq_true.mp w
        obtain ⟨e1, e2⟩ := Bool.and_eq_true_iff.mp e
        refine ⟨q, ?_⟩
        have qo : q % 2 = 1 := by
          simp at hq
          omega
        rw [jac_odd qo ho, jac_nat]
        have gc : Nat.gcd p q = 1 := by rw [← gcd_mod']; simpa using e2
        rw [if_pos gc, ← mu_mod, e1]
        have : odd ((p - 1) / 2) = false := by
          unfold odd
          have : ((p - 1) / 2) % 2 = 0 := by omega
          simp [this]
        rw [this]; simp [bs]
      · obtain ⟨x, hx, e⟩ := List.any_eq_true.mp w
        have e : x * x = p := by simpa using e
        have x2 : 2 ≤ x := by
          rcases Nat.lt_or_ge x 2 with y | y
          · have : x = 0 ∨ x = 1 := by omega
            rcases this with rfl | rfl <;> omega
          · exact y
        have := hp.2 x x2 (by rw [← e]; exact Nat.lt_mul_self_iff.mpr (by omega))
        exact absurd (by rw [← e]; simp) this
    · obtain ⟨q, hq, e⟩ := List.any_eq_true.mp w
      obtain ⟨e1, e2⟩ := Bool.and_eq_true_iff.mp e
      have e1 : p % q = 0 := by simpa using e1
      have e2 : p ≠ q := by simpa using e2
      have q2 : 2 ≤ q := by simp at hq; omega
      have := Nat.le_of_dvd (by omega) (Nat.dvd_of_mod_eq_zero e1)
      exact absurd e1 (hp.2 q q2 (by omega))
  · exact ⟨2, two p ho (.inl z)⟩
  · exact ⟨2, two p ho (.inr z)⟩
  · refine ⟨p - 1, ?_⟩
    rw [jac_cong (t := -1) (by
      have : ((p - 1 : Nat) : Int) = -1 + p * 1 := by omega
      rw [this, Int.add_mul_emod_self_left]), jac_neg ho, if_neg (by omega)]
end Jac

namespace DL
open PySem L2
/-! ## pure data over the abstract heap -/
mutual
inductive Im (K : PySem.W.Frag) (H : Hp) : V → PyData → Prop
  | non : Im K H .non .none
  | bl (b : Bool) : Im K H (.bl b) (.bool b)
  | int (i : Int) : Im K H (.int i) (.int i)
  | str (x : Str) : Im K H (.str x) (.str x)
  | tup {a : Addr} {xs : List V} {ds : List PyData} : SqT K H a xs → Ims K H xs ds → Im K H (.ref a) (.tuple ds)
inductive Ims (K : PySem.W.Frag) (H : Hp) : List V → List PyData → Prop
  | nil : Ims K H [] []
  | cons {v : V} {vs : List V} {d : PyData} {ds : List PyData} : Im K H v d → Ims K H vs ds → Ims K H (v :: vs) (d :: ds)
end
/-- tuples stay -/
def Tup (H H' : Hp) : Prop := (∀ a xs, H a = some (.tup xs) → H' a = some (.tup xs)) ∧ ∀ a o u, H a = some (.frz o u) → H' a = some (.frz o u)
theorem sqT_tup {K : PySem.W.Frag} {H H' : Hp} {a : Addr} {xs : List V} (t : Tup H H') (h : SqT K H a xs) : SqT K H' a xs := by
  rcases h with (h | ⟨o, h⟩) | h
  · exact .inl (.inl (t.1 _ _ h))
  · exact .inl (.inr ⟨o, t.2 _ _ _ h⟩)
  · exact .inr h
section
variable {K : PySem.W.Frag} {H H' : Hp}
mutual
theorem Im.tupS (t : Tup H H') : ∀ {d : PyData} {v : V}, Im K H v d → Im K H' v d
  | _, _, .non => .non
  | _, _, .bl b => .bl b
  | _, _, .int i => .int i
  | _, _, .str x => .str x
  | _, _, .tup h hs => .tup (sqT_tup t h) (Ims.tupS t hs)
theorem Ims.tupS (t : Tup H H') : ∀ {ds : List PyData} {vs : List V}, Ims K H vs ds → Ims K H' vs ds
  | _, _, .nil => .nil
  | _, _, .cons h hs => .cons (Im.tupS t h) (Ims.tupS t hs)
end
mutual
theorem Im.dp : ∀ {d : PyData} {v : V}, Im K H v d → Dp K H v d
  | _, _, .non => .non
  | _, _, .bl b => .bl b
  | _, _, .int i => .int i
  | _, _, .str x => .str x
  | _, _, .tup h hs => .tup h (Ims.dp hs)
theorem Ims.dp : ∀ {ds : List PyData} {vs : List V}, Ims K H vs ds → DpAll K H vs ds
  | _, _, .nil => .nil
  | _, _, .cons h hs => .cons (Im.dp h) (Ims.dp hs)
end
theorem Ims.length {vs : List V} {ds : List PyData} (h : Ims K H vs ds) : vs.length = ds.length := by
  induction ds generalizing vs with
  | nil => cases h; rfl
  | cons d r ih => cases h with | cons a b => simp [ih b]
theorem Ims.get {vs : List V} {ds : List PyData} (h : Ims K H vs ds) : ∀ {i : Nat} {d : PyData}, ds[i]? = some d → ∃ v, vs[i]? = some v ∧ Im K H v d := by
  induction ds generalizing vs with
  | nil => intro i d e; simp at e
  | cons x r ih =>
    cases h with
    | cons a b =>
      intro i d e
      cases i with
      | zero => simp at e; subst e; exact ⟨_, rfl, a⟩
      | succ i => exact ih b (by simpa using e)
theorem Ims.getV {vs : List V} {ds : List PyData} (h : Ims K H vs ds) : ∀ {i : Nat} {v : V}, vs[i]? = some v → ∃ d, ds[i]? = some d ∧ Im K H v d := by
  induction ds generalizing vs with
  | nil => cases h; intro i d e; simp at e
  | cons x r ih =>
    cases h with
    | cons a b =>
      intro i d e
      cases i with
      | zero => simp at e; subst e; exact ⟨_, rfl, a⟩
      | succ i => exact ih b (by simpa using e)
theorem Ims.append {vs ws : List V} {ds es : List PyData} (h : Ims K H vs ds) (h' : Ims K H ws es) : Ims K H (vs ++ ws) (ds ++ es) := by
  induction ds generalizing vs with
  | nil => cases h; exact h'
  | cons d r ih => cases h with | cons a b => exact .cons a (ih b)
theorem Ims.take {vs : List V} {ds : List PyData} (h : Ims K H vs ds) : ∀ n, Ims K H (vs.take n) (ds.take n) := by
  induction ds generalizing vs with
  | nil => cases h; intro n; simp; exact .nil
  | cons d r ih =>
    cases h with
    | cons a b =>
      intro n
      cases n with
      | zero => exact .nil
      | succ n => exact .cons a (ih b n)
theorem Ims.drop {vs : List V} {ds : List PyData} (h : Ims K H vs ds) : ∀ n, Ims K H (vs.drop n) (ds.drop n) := by
  induction ds generalizing vs with
  | nil => cases h; intro n; simp; exact .nil
  | cons d r ih =>
    cases h with
    | cons a b =>
      intro n
      cases n with
      | zero => exact .cons a b
      | succ n => exact ih b n
theorem Ims.set {vs : List V} {ds : List PyData} {v : V} {d : PyData} (h : Ims K H vs ds) (x : Im K H v d) : ∀ n, Ims K H (vs.set n v) (ds.set n d) := by
  induction ds generalizing vs with
  | nil => cases h; intro n; exact .nil
  | cons e r ih =>
    cases h with
    | cons a b =>
      intro n
      cases n with
      | zero => exact .cons x b
      | succ n => exact .cons a (ih b n)
theorem Ims.erase {vs : List V} {ds : List PyData} (h : Ims K H vs ds) : ∀ n, Ims K H (vs.eraseIdx n) (ds.eraseIdx n) := by
  induction ds generalizing vs with
  | nil => cases h; intro n; exact .nil
  | cons e r ih =>
    cases h with
    | cons a b =>
      intro n
      cases n with
      | zero => exact b
      | succ n => exact .cons a (ih b n)
theorem Ims.rev {vs : List V} {ds : List PyData} (h : Ims K H vs ds) : Ims K H vs.reverse ds.reverse := by
  induction ds generalizing vs with
  | nil => cases h; exact .nil
  | cons e r ih =>
    cases h with
    | cons a b =>
      rw [List.reverse_cons, List.reverse_cons]
      exact (ih b).append (.cons a .nil)
theorem Im.intv {v : V} {i : Int} (h : Im K H v (.int i)) : v = .int i := by cases h; rfl
theorem Im.blv {v : V} {b : Bool} (h : Im K H v (.bool b)) : v = .bl b := by cases h; rfl
theorem Im.strv {v : V} {b : Str} (h : Im K H v (.str b)) : v = .str b := by cases h; rfl
theorem Im.nonv {v : V} (h : Im K H v .none) : v = .non := by cases h; rfl
theorem Ims.ints {vs : List V} {ns : List Int} (h : Ims K H vs (ns.map PyData.int)) : vs = ns.map V.int := by
  induction ns generalizing vs with
  | nil => cases h; rfl
  | cons n r ih => cases h with | cons a b => rw [a.intv, ih b]; rfl
theorem Ims.of_ints (ns : List Int) : Ims K H (ns.map V.int) (ns.map PyData.int) := by
  induction ns with
  | nil => exact .nil
  | cons n r ih => exact .cons (.int n) ih
theorem Ims.bls {vs : List V} {ns : List Bool} (h : Ims K H vs (ns.map PyData.bool)) : vs = ns.map V.bl := by
  induction ns generalizing vs with
  | nil => cases h; rfl
  | cons n r ih => cases h with | cons a b => rw [a.blv, ih b]; rfl
end
/-! ## the pen -/
def kC : Key := .inr "cells"
def kA : Key := .inr "at"
def kD : Key := .inr "digits"
def kN : Key := .inr "count"
def kF : Key := .inr "fold"
def penD (l : Addr) (at_ dg ct fo : Int) : List (Key × V) := [(kC, .ref l), (kA, .int at_), (kD, .int dg), (kN, .int ct), (kF, .int fo)]
def PenAt (H : Hp) (q l : Addr) : Prop := ∃ (ns : List Int) (at_ dg ct fo : Int), H q = some (.dK (penD l at_ dg ct fo)) ∧ H l = some (.lst (ns.map V.int)) ∧ ns.length ≤ 63 ∧ 0 ≤ at_ ∧ 0 ≤ dg
def PenOk (H : Hp) (q : Addr) : Prop := ∃ l : Addr, PenAt H q l
/-- from H to H' all that is known stays, but the pen may turn -/
structure Stp (p : Option Addr) (H H' : Hp) : Prop where
  keep : ∀ a o, p ≠ some a → H a = some o → H' a = some o
  pen : ∀ q l, p = some q → PenAt H q l → PenAt H' q l
theorem Stp.refl (p : Option Addr) (H : Hp) : Stp p H H := ⟨fun _ _ _ e => e, fun _ _ _ h => h⟩
theorem Stp.trans {p : Option Addr} {H H1 H2 : Hp} (a : Stp p H H1) (b : Stp p H1 H2) : Stp p H H2 :=
  ⟨fun x o n e => b.keep x o n (a.keep x o n e), fun q l e h => b.pen q l e (a.pen q l e h)⟩
theorem PenOk.ne {H : Hp} {q a : Addr} {xs : List V} (h : PenOk H q) (e : H a = some (.tup xs)) : a ≠ q := by
  obtain ⟨_, _, _, _, _, _, h, _⟩ := h
  exact ne_of e h (by intro z; cases z)
theorem PenOk.neL {H : Hp} {q a : Addr} {xs : List V} (h : PenOk H q) (e : H a = some (.lst xs)) : a ≠ q := by
  obtain ⟨_, _, _, _, _, _, h, _⟩ := h
  exact ne_of e h (by intro z; cases z)
theorem PenOk.neF {H : Hp} {q a : Addr} {o : Obj} {u : HO} (h : PenOk H q) (e : H a = some (.frz o u)) : a ≠ q := by
  obtain ⟨_, _, _, _, _, _, h, _⟩ := h
  exact ne_of e h (by intro z; cases z)
def POk (p : Option Addr) (H : Hp) : Prop := ∀ q, p = some q → PenOk H q
section
variable {p : Option Addr} {H H1 H' : Hp} {K : PySem.W.Frag}
theorem POk.step (h : POk p H) (s : Stp p H H') : POk p H' := fun q e => let ⟨l, x⟩ := h q e; ⟨l, s.pen q l e x⟩
theorem Stp.tup (s : Stp p H H') (h : POk p H) : Tup H H' :=
  ⟨fun a xs e => s.keep a _ (fun z => (h a z).ne e rfl) e, fun a o u e => s.keep a _ (fun z => (h a z).neF e rfl) e⟩
theorem Stp.new {a : Addr} {o : HO} (h : H a = none) : Stp p H (upd H a o) := by
  refine ⟨fun b u _ e => ?_, fun q l e k => ?_⟩
  · rw [upd_ne (ne_of_none e h)]; exact e
  · obtain ⟨ns, x1, x2, x3, x4, h1, h2, r⟩ := k
    exact ⟨ns, x1, x2, x3, x4, by rw [upd_ne (ne_of_none h1 h)]; exact h1, by rw [upd_ne (ne_of_none h2 h)]; exact h2, r⟩
theorem Stp.back (s : Stp p H H') (h : POk p H) {a : Addr} (e : H' a = none) : H a = none := by
  cases q : H a with
  | none => rfl
  | some o =>
    by_cases z : p = some a
    · obtain ⟨l, hl⟩ := h a z
      obtain ⟨ns, x1, x2, x3, x4, h1, _⟩ := s.pen a l z hl
      rw [e] at h1; cases h1
    · rw [s.keep a o z q] at e; cases e
theorem sqL_step (s : Stp p H H') (h : POk p H) {a : Addr} {xs : List V} (e : SqL K H a xs) : SqL K H' a xs := by
  rcases e with (e | ⟨o, e⟩) | e
  · exact .inl (.inl (s.keep a _ (fun z => (h a z).neL e rfl) e))
  · exact .inl (.inr ⟨o, s.keep a _ (fun z => (h a z).neF e rfl) e⟩)
  · exact .inr e
end
/-- an exception's dict -/
def ExAt (K : PySem.W.Frag) (H : Hp) (d : Addr) (fs : List (Str × PyData)) : Prop := ∃ vs : List (Str × V), H d = some (.xd vs) ∧ vs.map (·.1) = fs.map (·.1) ∧ Ims K H (vs.map (·.2)) (fs.map (·.2))
theorem ExAt.step {K : PySem.W.Frag} {p : Option Addr} {H H1 : Hp} {d : Addr} {fs : List (Str × PyData)} (x : ExAt K H d fs) (t : Stp p H H1) (h : POk p H) : ExAt K H1 d fs := by
  obtain ⟨vs, e, k, m⟩ := x
  exact ⟨vs, t.keep d _ (fun z => by
    obtain ⟨_, _, _, _, _, _, g, _⟩ := h d z
    rw [e] at g; cases g) e, k, m.tupS (t.tup h)⟩
/-! ## what stands at a name, what an expression gives -/
inductive Ent where
  /-- nothing known -/
  | no
  /-- pure data: no list in it -/
  | im (d : PyData)
  /-- a list of our own, of pure data; the same at a known place -/
  | ls (ds : List PyData)
  | la (a : Addr) (vs : List V) (ds : List PyData)
  /-- dicts of our own -/
  | dk (kvs : List (Key × PyData))
  | dt (kvs : List (List Key × PyData))
  /-- a list that is read alone -/
  | ro (ds : List PyData)
  | pen
  /-- a pen just made -/
  | pn
  | raw (v : V)
  | ex (a d : Addr) (fs : List (Str × PyData))
abbrev I (n : Int) : Ent := .im (.int n)
abbrev B (b : Bool) : Ent := .im (.bool b)
/-- keys alike, values told -/
def KIms {κ : Type} (K : PySem.W.Frag) (H : Hp) (vs : List (κ × V)) (ds : List (κ × PyData)) : Prop := vs.map (·.1) = ds.map (·.1) ∧ Ims K H (vs.map (·.2)) (ds.map (·.2))
/-- an object of our own -/
def Ent.obj (K : PySem.W.Frag) : Ent → Option (Hp → HO → Prop)
  | .ls ds => some fun H o => ∃ vs, o = .lst vs ∧ Ims K H vs ds
  | .la _ vs ds => some fun H o => o = .lst vs ∧ Ims K H vs ds
  | .dk ds => some fun H o => ∃ vs, o = .dK vs ∧ KIms K H vs ds
  | .dt ds => some fun H o => ∃ vs, o = .dT vs ∧ KIms K H vs ds
  | .pn => some fun H o => True
  | _ => none
def Ent.adr : Ent → Addr → Prop
  | .la b _ _, a => a = b
  | _, _ => True
theorem obj_tup {K : PySem.W.Frag} {e : Ent} {φ : Hp → HO → Prop} {H H' : Hp} {o : HO} (h : e.obj K = some φ) (t : Tup H H') (x : φ H o) : φ H' o := by
  cases e with
  | ls ds => cases h; obtain ⟨vs, e, i⟩ := x; exact ⟨vs, e, i.tupS t⟩
  | la a vs ds => cases h; obtain ⟨e, i⟩ := x; exact ⟨e, i.tupS t⟩
  | dk ds => cases h; obtain ⟨vs, e, k, i⟩ := x; exact ⟨vs, e, k, i.tupS t⟩
  | dt ds => cases h; obtain ⟨vs, e, k, i⟩ := x; exact ⟨vs, e, k, i.tupS t⟩
  | pn => cases h; trivial
  | no => cases h
  | im d => cases h
  | ro d => cases h
  | pen => cases h
  | raw d => cases h
  | ex a d fs => cases h
/-- H0: the entry; F: a frame that is kept too -/
def Own (K : PySem.W.Frag) (H0 F H : Hp) (e : Ent) (φ : Hp → HO → Prop) (s : Option V) : Prop := ∃ a o, s = some (.ref a) ∧ e.adr a ∧ H0 a = none ∧ F a = none ∧ H a = some o ∧ φ H o
def EntOk (K : PySem.W.Frag) (p : Option Addr) (H0 F H : Hp) (e : Ent) (s : Option V) : Prop :=
  (∀ φ, e.obj K = some φ → Own K H0 F H e φ s) ∧
  match e with
  | .im d => ∃ v, s = some v ∧ Im K H v d
  | .ro ds => ∃ a vs, s = some (.ref a) ∧ SqL K H0 a vs ∧ SqL K H a vs ∧ Ims K H vs ds
  | .pen => ∃ q, p = some q ∧ s = some (.ref q)
  | .raw v => s = some v
  | .ex a d fs => s = some (.ref a) ∧ ExAt K H0 d fs
  | .pn => False
  | _ => True
def ResOk (K : PySem.W.Frag) (p : Option Addr) (H0 H : Hp) (e : Ent) (v : V) : Prop :=
  (∀ φ, e.obj K = some φ → ∃ a o, v = .ref a ∧ e.adr a ∧ H0 a = none ∧ H a = some o ∧ φ H o) ∧
  match e with
  | .im d => Im K H v d
  | .ro ds => ∃ a vs, v = .ref a ∧ SqL K H a vs ∧ Ims K H vs ds
  | .pen => ∃ q, p = some q ∧ v = .ref q
  | .pn => ∃ q, v = .ref q ∧ PenOk H q
  | .raw w => v = w
  | .ex a d fs => v = .ref a ∧ ExAt K H d fs
  | _ => True
theorem res_im {K : PySem.W.Frag} {p : Option Addr} {H0 H : Hp} {d : PyData} {v : V} : ResOk K p H0 H (.im d) v ↔ Im K H v d := ⟨fun h => h.2, fun h => ⟨(fun φ e => by cases e), h⟩⟩
theorem res_ro {K : PySem.W.Frag} {p : Option Addr} {H0 H : Hp} {ds : List PyData} {v : V} : ResOk K p H0 H (.ro ds) v ↔ ∃ a vs, v = .ref a ∧ SqL K H a vs ∧ Ims K H vs ds := ⟨fun h => h.2, fun h => ⟨(fun φ e => by cases e), h⟩⟩
theorem res_ls {K : PySem.W.Frag} {p : Option Addr} {H0 H : Hp} {ds : List PyData} {v : V} : ResOk K p H0 H (.ls ds) v ↔ ∃ a vs, v = .ref a ∧ H0 a = none ∧ H a = some (.lst vs) ∧ Ims K H vs ds := by
  constructor
  · intro h
    obtain ⟨a, o, e, _, n, g, vs, rfl, i⟩ := h.1 _ rfl
    exact ⟨a, vs, e, n, g, i⟩
  · rintro ⟨a, vs, e, n, g, i⟩
    exact ⟨(fun φ z => by cases z; exact ⟨a, _, e, trivial, n, g, vs, rfl, i⟩), trivial⟩
theorem res_dk {K : PySem.W.Frag} {p : Option Addr} {H0 H : Hp} {ds : List (Key × PyData)} {v : V} : ResOk K p H0 H (.dk ds) v ↔ ∃ a vs, v = .ref a ∧ H0 a = none ∧ H a = some (.dK vs) ∧ KIms K H vs ds := by
  constructor
  · intro h
    obtain ⟨a, o, e, _, n, g, vs, rfl, i⟩ := h.1 _ rfl
    exact ⟨a, vs, e, n, g, i⟩
  · rintro ⟨a, vs, e, n, g, i⟩
    exact ⟨(fun φ z => by cases z; exact ⟨a, _, e, trivial, n, g, vs, rfl, i⟩), trivial⟩
theorem res_dt {K : PySem.W.Frag} {p : Option Addr} {H0 H : Hp} {ds : List (List Key × PyData)} {v : V} : ResOk K p H0 H (.dt ds) v ↔ ∃ a vs, v = .ref a ∧ H0 a = none ∧ H a = some (.dT vs) ∧ KIms K H vs ds := by
  constructor
  · intro h
    obtain ⟨a, o, e, _, n, g, vs, rfl, i⟩ := h.1 _ rfl
    exact ⟨a, vs, e, n, g, i⟩
  · rintro ⟨a, vs, e, n, g, i⟩
    exact ⟨(fun φ z => by cases z; exact ⟨a, _, e, trivial, n, g, vs, rfl, i⟩), trivial⟩
theorem res_raw {K : PySem.W.Frag} {p : Option Addr} {H0 H : Hp} {w v : V} : ResOk K p H0 H (.raw w) v ↔ v = w := ⟨fun h => h.2, fun h => ⟨(fun φ e => by cases e), h⟩⟩
theorem res_pen {K : PySem.W.Frag} {p : Option Addr} {H0 H : Hp} {v : V} : ResOk K p H0 H .pen v ↔ ∃ q, p = some q ∧ v = .ref q := ⟨fun h => h.2, fun h => ⟨(fun φ e => by cases e), h⟩⟩
structure Ev (K : PySem.W.Frag) (p : Option Addr) (H0 F : Hp) (Γ : List Ent) (σ : L2.St) (H : Hp) : Prop where
  ent : ∀ (i : Nat) (e : Ent), Γ[i]? = some e → ∃ s, σ[i]? = some s ∧ EntOk K p H0 F H e s
  sep : ∀ (i j : Nat) (a : Addr) (d e : Ent), i ≠ j → Γ[i]? = some d → Γ[j]? = some e → (d.obj K).isSome = true → (e.obj K).isSome = true → σ[i]? = some (some (V.ref a)) → σ[j]? = some (some (V.ref a)) → False
  stp : Stp p H0 H
  pok0 : POk p H0
  frm : ∀ a o, F a = some o → H a = some o
  frp : ∀ q, p = some q → F q = none
abbrev Err := Addr × List (Str × PyData)
def ErrOk (K : PySem.W.Frag) (H : Hp) (e : Err) (cls : Value) (d : Option Addr) : Prop :=
  cls = .ref e.1 ∧ ∃ (dd : Addr) (fs : List (Str × V)), d = some dd ∧ H dd = some (.xd fs) ∧ fs.map (·.1) = e.2.map (·.1) ∧ Ims K H (fs.map (·.2)) (e.2.map (·.2))
structure Cd where
  K : PySem.W.Frag
  p : Option Addr
  E : XK
  X : Err → Prop
def Cd.XOk (c : Cd) (H0 : Hp) : Prop := ∀ e cls d H', c.X e → Stp c.p H0 H' → ErrOk c.K H' e cls d → c.E cls d H'
section
variable {K : PySem.W.Frag} {p : Option Addr} {H0 F H H1 H2 : Hp} {Γ : List Ent} {σ : L2.St}
theorem POk.ne0 (h : POk p H0) {a : Addr} (e : H0 a = none) : p ≠ some a := fun z => by
  obtain ⟨_, _, _, _, _, _, g, _⟩ := h a z
  rw [e] at g; cases g
theorem EntOk.step {e : Ent} {s : Option V} (t : Stp p H H1) (h0 : POk p H0) (h : POk p H) (x : EntOk K p H0 F H e s) : EntOk K p H0 F H1 e s := by
  refine ⟨fun φ z => ?_, ?_⟩
  · obtain ⟨a, o, e, ad, n, f, g, k⟩ := x.1 φ z
    exact ⟨a, o, e, ad, n, f, t.keep a _ (h0.ne0 n) g, obj_tup z (t.tup h) k⟩
  · have x := x.2
    cases e with
    | im d => obtain ⟨v, e, i⟩ := x; exact ⟨v, e, i.tupS (t.tup h)⟩
    | ro ds => obtain ⟨a, vs, e, n, g, i⟩ := x; exact ⟨a, vs, e, n, sqL_step t h g, i.tupS (t.tup h)⟩
    | pen => exact x
    | pn => exact x
    | raw v => exact x
    | ex a d fs => exact x
    | no => trivial
    | ls d => trivial
    | la a vs d => trivial
    | dk d => trivial
    | dt d => trivial
theorem ResOk.step {e : Ent} {v : V} (t : Stp p H H1) (h0 : POk p H0) (h : POk p H) (x : ResOk K p H0 H e v) : ResOk K p H0 H1 e v := by
  refine ⟨fun φ z => ?_, ?_⟩
  · obtain ⟨a, o, e, ad, n, g, k⟩ := x.1 φ z
    exact ⟨a, o, e, ad, n, t.keep a _ (h0.ne0 n) g, obj_tup z (t.tup h) k⟩
  · have x1 := x.1
    have x := x.2
    cases e with
    | im d => exact Im.tupS (t.tup h) x
    | ro ds => obtain ⟨a, vs, e, g, i⟩ := x; exact ⟨a, vs, e, sqL_step t h g, i.tupS (t.tup h)⟩
    | pen => exact x
    | pn =>
      obtain ⟨q, e, k⟩ := x
      obtain ⟨a, o, e', _, n, g, _⟩ := x1 _ rfl
      rw [e] at e'; cases e'
      obtain ⟨l, ns, y1, y2, y3, y4, g1, g2, r⟩ := k
      exact ⟨q, e, l, ns, y1, y2, y3, y4, t.keep q _ (h0.ne0 n) g1, t.keep l _ (fun z => (h l z).neL g2 rfl) g2, r⟩
    | raw v => exact x
    | ex a d fs => exact ⟨x.1, x.2.step t h⟩
    | no => trivial
    | ls d => trivial
    | la a vs d => trivial
    | dk d => trivial
    | dt d => trivial
theorem ResOk.back {e : Ent} {v : V} (t : Stp p H0 H) (h : POk p H0) (x : ResOk K p H H1 e v) : ResOk K p H0 H1 e v :=
  ⟨fun φ z => let ⟨a, o, e, ad, n, g⟩ := x.1 φ z; ⟨a, o, e, ad, t.back h n, g⟩, x.2⟩
theorem Ev.pok (x : Ev K p H0 F Γ σ H) : POk p H := x.pok0.step x.stp
theorem Ev.step (x : Ev K p H0 F Γ σ H) (t : Stp p H H1) : Ev K p H0 F Γ σ H1 :=
  ⟨fun i e g => let ⟨s, a, b⟩ := x.ent i e g; ⟨s, a, b.step t x.pok0 x.pok⟩, x.sep, x.stp.trans t, x.pok0, fun a o e => t.keep a o (fun z => by rw [x.frp a z] at e; cases e) (x.frm a o e), x.frp⟩
theorem Ev.fnone (x : Ev K p H0 F Γ σ H) {a : Addr} (h : H a = none) : F a = none := by
  cases q : F a with
  | none => rfl
  | some o => rw [x.frm a o q] at h; cases h
/-- what an assigned result becomes -/
def Ent.toE : Ent → Ent
  | .ro _ => .no
  | .pn => .no
  | .ex _ _ _ => .no
  | e => e
theorem toE_obj {K : PySem.W.Frag} {e : Ent} {φ : Hp → HO → Prop} (h : e.toE.obj K = some φ) : e.obj K = some φ ∧ e.toE = e := by
  cases e <;> first | exact ⟨h, rfl⟩ | cases h
theorem ResOk.toE {r : Ent} {v : V} (x : Ev K p H0 F Γ σ H) (h : ResOk K p H H1 r v) : EntOk K p H0 F H1 r.toE (some v) := by
  refine ⟨fun φ z => ?_, ?_⟩
  · obtain ⟨z', er⟩ := toE_obj z
    rw [er]
    obtain ⟨a, o, e, ad, n, g, k⟩ := h.1 φ z'
    exact ⟨a, o, by rw [e], ad, x.stp.back x.pok0 n, x.fnone n, g, k⟩
  · have h := h.2
    cases r with
    | im d => exact ⟨v, rfl, h⟩
    | ro ds => trivial
    | pen => obtain ⟨q, e, z⟩ := h; exact ⟨q, e, by rw [z]⟩
    | pn => trivial
    | raw w => have h : v = w := h; subst h; rfl
    | ex a d fs => trivial
    | no => trivial
    | ls d => trivial
    | la a vs d => trivial
    | dk d => trivial
    | dt d => trivial
theorem Ev.set (x : Ev K p H0 F Γ σ H) (t : Stp p H H1) {i : Nat} {r : Ent} {v : V} (hi : i < Γ.length) (h : ResOk K p H H1 r v) : Ev K p H0 F (Γ.set i r.toE) (σ.set i (some v)) H1 := by
  have hs : i < σ.length := by
    obtain ⟨s, e, _⟩ := x.ent i _ (List.getElem?_eq_getElem hi)
    exact (List.getElem?_eq_some_iff.mp e).1
  have x1 := x.step t
  have new : EntOk K p H0 F H1 r.toE (some v) := by
    clear x1
    refine ⟨fun φ z => ?_, ?_⟩
    · obtain ⟨z', er⟩ := toE_obj z
      rw [er]
      obtain ⟨a, o, e, ad, n, g, k⟩ := h.1 φ z'
      exact ⟨a, o, by rw [e], ad, x.stp.back x.pok0 n, x.fnone n, g, k⟩
    · have h := h.2
      cases r with
      | im d => exact ⟨v, rfl, h⟩
      | ro ds => trivial
      | pen => obtain ⟨q, e, z⟩ := h; exact ⟨q, e, by rw [z]⟩
      | pn => trivial
      | raw w => have h : v = w := h; subst h; rfl
      | ex a d fs => trivial
      | no => trivial
      | ls d => trivial
      | la a vs d => trivial
      | dk d => trivial
      | dt d => trivial
  have fresh : ∀ (j : Nat) (a : Addr) (e : Ent), i ≠ j → (r.toE.obj K).isSome = true → Γ[j]? = some e → (e.obj K).isSome = true → σ[j]? = some (some (V.ref a)) → v = V.ref a → False := fun j a e nj hr g he sj ev => by
    obtain ⟨φ, hφ⟩ := Option.isSome_iff_exists.mp hr
    obtain ⟨ψ, hψ⟩ := Option.isSome_iff_exists.mp he
    obtain ⟨b, o, e1, _, n, _⟩ := h.1 φ (toE_obj hφ).1
    rw [ev] at e1; cases e1
    obtain ⟨s', e2, k⟩ := x.ent j e g
    obtain ⟨b', o', e3, _, _, _, g', _⟩ := k.1 ψ hψ
    rw [sj] at e2
    have e2 := Option.some.inj e2
    rw [e3] at e2; cases e2
    rw [n] at g'; cases g'
  refine ⟨fun j e g => ?_, fun j k a d e njk gj gk hd he sj sk => ?_, x1.stp, x.pok0, x1.frm, x.frp⟩
  · by_cases hj : i = j
    · subst hj
      rw [List.getElem?_set_self hi] at g
      have g := Option.some.inj g
      subst g
      exact ⟨_, List.getElem?_set_self hs, new⟩
    · rw [List.getElem?_set_ne hj] at g
      obtain ⟨s, e, k⟩ := x1.ent j e g
      exact ⟨s, by rw [List.getElem?_set_ne hj]; exact e, k⟩
  · by_cases hj : i = j
    · subst hj
      rw [List.getElem?_set_self hi] at gj
      rw [List.getElem?_set_self hs] at sj
      rw [List.getElem?_set_ne njk] at gk sk
      have gj := Option.some.inj gj
      subst gj
      exact fresh k a e njk hd gk he sk (Option.some.inj (Option.some.inj sj))
    · rw [List.getElem?_set_ne hj] at gj sj
      by_cases hk : i = k
      · subst hk
        rw [List.getElem?_set_self hi] at gk
        rw [List.getElem?_set_self hs] at sk
        have gk := Option.some.inj gk
        subst gk
        exact fresh j a d (fun z => njk z.symm) he gj hd sj (Option.some.inj (Option.some.inj sk))
      · rw [List.getElem?_set_ne hk] at gk sk
        exact x.sep j k a d e njk gj gk hd he sj sk
theorem Ev.setG (x : Ev K p H0 F Γ σ H) {i : Nat} {e : Ent} {v : V} (hi : i < Γ.length) (new : EntOk K p H0 F H e (some v))
    (sep : (e.obj K).isSome = true → ∀ (j : Nat) (d : Ent), j ≠ i → Γ[j]? = some d → (d.obj K).isSome = true → σ[j]? = some (some v) → False) : Ev K p H0 F (Γ.set i e) (σ.set i (some v)) H := by
  have hs : i < σ.length := by
    obtain ⟨s, e, _⟩ := x.ent i _ (List.getElem?_eq_getElem hi)
    exact (List.getElem?_eq_some_iff.mp e).1
  refine ⟨fun j e g => ?_, fun j k a d e njk gj gk hd he sj sk => ?_, x.stp, x.pok0, x.frm, x.frp⟩
  · by_cases hj : i = j
    · subst hj
      rw [List.getElem?_set_self hi] at g
      have g := Option.some.inj g
      subst g
      exact ⟨_, List.getElem?_set_self hs, new⟩
    · rw [List.getElem?_set_ne hj] at g
      obtain ⟨s, e, k⟩ := x.ent j e g
      exact ⟨s, by rw [List.getElem?_set_ne hj]; exact e, k⟩
  · by_cases hj : i = j
    · subst hj
      rw [List.getElem?_set_self hi] at gj
      rw [List.getElem?_set_self hs] at sj
      rw [List.getElem?_set_ne njk] at gk sk
      have gj := Option.some.inj gj
      subst gj
      have z := Option.some.inj (Option.some.inj sj)
      exact sep hd k e (fun q => njk q.symm) gk he (by rw [z]; exact sk)
    · rw [List.getElem?_set_ne hj] at gj sj
      by_cases hk : i = k
      · subst hk
        rw [List.getElem?_set_self hi] at gk
        rw [List.getElem?_set_self hs] at sk
        have gk := Option.some.inj gk
        subst gk
        have z := Option.some.inj (Option.some.inj sk)
        exact sep he j d njk gj hd (by rw [z]; exact sj)
      · rw [List.getElem?_set_ne hk] at gk sk
        exact x.sep j k a d e njk gj gk hd he sj sk
/-- less is known -/
def EWk : Ent → Ent → Prop := fun e e' => e' = e ∨ e' = .no ∨ ∃ a vs ds, e = .la a vs ds ∧ e' = .ls ds
theorem EWk.ok {e e' : Ent} {s : Option V} (w : EWk e e') (h : EntOk K p H0 F H e s) : EntOk K p H0 F H e' s := by
  rcases w with rfl | rfl | ⟨a, vs, ds, rfl, rfl⟩
  · exact h
  · exact ⟨(fun φ z => by cases z), trivial⟩
  · refine ⟨fun φ z => ?_, trivial⟩
    cases z
    obtain ⟨b, o, e, _, n, f, g, eo, m⟩ := h.1 _ rfl
    exact ⟨b, o, e, trivial, n, f, g, vs, eo, m⟩
theorem EWk.own {e e' : Ent} (w : EWk e e') (h : (e'.obj K).isSome = true) : (e.obj K).isSome = true := by
  rcases w with rfl | rfl | ⟨a, vs, ds, rfl, rfl⟩
  · exact h
  · cases h
  · rfl
inductive Wk : List Ent → List Ent → Prop
  | nil : Wk [] []
  | cons {e e' : Ent} {Γ Γ' : List Ent} : EWk e e' → Wk Γ Γ' → Wk (e :: Γ) (e' :: Γ')
theorem Wk.get : ∀ {Γ Γ' : List Ent} {i : Nat} {e' : Ent}, Wk Γ Γ' → Γ'[i]? = some e' → ∃ e, Γ[i]? = some e ∧ EWk e e'
  | _, _, _, _, .nil, h => by simp at h
  | _, _, 0, _, .cons w _, h => by simp at h; subst h; exact ⟨_, rfl, w⟩
  | _, _, i + 1, _, .cons _ t, h => Wk.get (i := i) t (by simpa using h)
theorem Wk.refl : ∀ Γ : List Ent, Wk Γ Γ
  | [] => .nil
  | _ :: r => .cons (.inl rfl) (Wk.refl r)
theorem Ev.weak {Γ' : List Ent} (w : Wk Γ Γ') (x : Ev K p H0 F Γ σ H) : Ev K p H0 F Γ' σ H :=
  ⟨fun i e' g => let ⟨e, h, k⟩ := w.get g; let ⟨s, a, b⟩ := x.ent i e h; ⟨s, a, k.ok b⟩,
    fun i j a d e n gi gj hd he si sj => let ⟨d', h1, k1⟩ := w.get gi; let ⟨e', h2, k2⟩ := w.get gj; x.sep i j a d' e' n h1 h2 (k1.own hd) (k2.own he) si sj, x.stp, x.pok0, x.frm, x.frp⟩
/-- a larger frame -/
theorem Ev.frame {F' : Hp} (x : Ev K p H0 F Γ σ H) (f : ∀ a o, F a = some o → F' a = some o) (x' : Ev K p H0 F' Γ σ H) : Ev K p H0 F Γ σ H := x
theorem Ev.unframe {F' : Hp} (x : Ev K p H0 F' Γ σ H) (f : ∀ a o, F a = some o → F' a = some o) : Ev K p H0 F Γ σ H := by
  have fn : ∀ a, F' a = none → F a = none := fun a h => by
    cases q : F a with
    | none => rfl
    | some o => rw [f a o q] at h; cases h
  refine ⟨fun i e g => ?_, x.sep, x.stp, x.pok0, fun a o e => x.frm a o (f a o e), fun q e => fn q (x.frp q e)⟩
  obtain ⟨s, a, b⟩ := x.ent i e g
  exact ⟨s, a, fun φ z => let ⟨b, o, e, ad, n, fr, r⟩ := b.1 φ z; ⟨b, o, e, ad, n, fn b fr, r⟩, b.2⟩
/-- the tuples as they stand, and a list that no name owns -/
def Fr2 (F H : Hp) (l : Option Addr) : Hp := fun b => match H b with
  | some (.tup xs) => some (.tup xs)
  | some (.frz o u) => some (.frz o u)
  | o => if l = some b then o else F b
theorem Ev.reframe (x : Ev K p H0 F Γ σ H) {l : Option Addr} (hl : ∀ b, l = some b → ∃ vs, H b = some (.lst vs)) (hn : ∀ b, l = some b → ∀ (i : Nat) (e : Ent), Γ[i]? = some e → (e.obj K).isSome = true → σ[i]? = some (some (V.ref b)) → False) :
    Ev K p H0 (Fr2 F H l) Γ σ H ∧ ∀ a o, F a = some o → Fr2 F H l a = some o := by
  have ext : ∀ a o, F a = some o → Fr2 F H l a = some o := fun a o e => by
    have h := x.frm a o e
    unfold Fr2
    rw [h]
    split
    · rename_i xs q; cases q; rfl
    · rename_i ob u q; cases q; rfl
    · split
      · rfl
      · exact e
  have frm : ∀ a o, Fr2 F H l a = some o → H a = some o := fun a o e => by
    unfold Fr2 at e
    split at e
    · rename_i xs q; rw [q]; exact e
    · rename_i ob u q; rw [q]; exact e
    · split at e
      · exact e
      · exact x.frm a o e
  refine ⟨⟨fun i e g => ?_, x.sep, x.stp, x.pok0, frm, fun q e => ?_⟩, ext⟩
  · obtain ⟨s, a, b⟩ := x.ent i e g
    refine ⟨s, a, fun φ z => ?_, b.2⟩
    obtain ⟨b, o, e1, ad, n, fr, g', r⟩ := b.1 φ z
    refine ⟨b, o, e1, ad, n, ?_, g', r⟩
    have ow : (e.obj K).isSome = true := by rw [z]; rfl
    have nt : ∀ xs, o ≠ .tup xs := by
      intro xs q
      subst q
      cases e <;> cases z
      all_goals first | (obtain ⟨vs, q, _⟩ := r; cases q) | (obtain ⟨q, _⟩ := r; cases q) | exact absurd (show False from (by have := (x.ent i _ g); obtain ⟨s2, _, b2⟩ := this; exact b2.2)) id
    have nf : ∀ ob u, o ≠ .frz ob u := by
      intro ob u q
      subst q
      cases e <;> cases z
      all_goals first | (obtain ⟨vs, q, _⟩ := r; cases q) | (obtain ⟨q, _⟩ := r; cases q) | exact absurd (show False from (by have := (x.ent i _ g); obtain ⟨s2, _, b2⟩ := this; exact b2.2)) id
    unfold Fr2
    rw [g']
    split
    · rename_i xs q; cases q; exact absurd rfl (nt xs)
    · rename_i ob u q; cases q; exact absurd rfl (nf ob u)
    · rw [if_neg]
      · exact fr
      · intro z2
        exact hn b z2 i e g ow (by rw [a, e1])
  · have hq := x.pok q e
    obtain ⟨_, _, _, _, _, _, hq, _⟩ := hq
    unfold Fr2
    rw [hq]
    dsimp only
    rw [if_neg]
    · exact x.frp q e
    · intro z
      obtain ⟨vs, h⟩ := hl q z
      rw [hq] at h; cases h
end
/-! ## judgements -/
def ResAll (K : PySem.W.Frag) (p : Option Addr) (H0 H : Hp) : List Ent → List V → Prop
  | [], vs => vs = []
  | r :: rs, vs => ∃ v ws, vs = v :: ws ∧ ResOk K p H0 H r v ∧ ResAll K p H0 H rs ws ∧ ((r.obj K).isSome = true → ∀ (j : Nat) (s : Ent), rs[j]? = some s → (s.obj K).isSome = true → ws[j]? = some v → False)
section
variable {K : PySem.W.Frag} {p : Option Addr} {H0 H H1 H2 : Hp}
theorem ResAll.step (t : Stp p H H1) (h0 : POk p H0) (h : POk p H) : ∀ {rs : List Ent} {vs : List V}, ResAll K p H0 H rs vs → ResAll K p H0 H1 rs vs
  | [], _, x => x
  | _ :: _, _, ⟨v, ws, e, a, b, k⟩ => ⟨v, ws, e, ResOk.step t h0 h a, ResAll.step t h0 h b, k⟩
theorem ResAll.back (t : Stp p H0 H) (h : POk p H0) : ∀ {rs : List Ent} {vs : List V}, ResAll K p H H1 rs vs → ResAll K p H0 H1 rs vs
  | [], _, x => x
  | _ :: _, _, ⟨v, ws, e, a, b, k⟩ => ⟨v, ws, e, ResOk.back t h a, ResAll.back t h b, k⟩
theorem ResAll.length : ∀ {rs : List Ent} {vs : List V}, ResAll K p H0 H rs vs → vs.length = rs.length
  | [], _, x => by rw [show _ = [] from x]; rfl
  | _ :: _, _, ⟨v, ws, e, a, b, _⟩ => by rw [e, List.length_cons, List.length_cons, ResAll.length b]
theorem ResAll.own : ∀ {rs : List Ent} {vs : List V} {j : Nat} {s : Ent} {w : V}, ResAll K p H0 H rs vs → rs[j]? = some s → (s.obj K).isSome = true → vs[j]? = some w → ∃ a, w = .ref a ∧ H0 a = none
  | [], _, _, _, _, x, e, _, _ => by simp at e
  | _ :: _, _, 0, s, w, ⟨v, ws, ev, a, b, _⟩, e, o, z => by
    subst ev
    simp at e z
    subst e z
    obtain ⟨φ, hφ⟩ := Option.isSome_iff_exists.mp o
    obtain ⟨x, _, h1, _, h2, _⟩ := a.1 φ hφ
    exact ⟨x, h1, h2⟩
  | _ :: _, _, j + 1, s, w, ⟨v, ws, ev, a, b, _⟩, e, o, z => by
    subst ev
    exact ResAll.own (j := j) b (by simpa using e) o (by simpa using z)
end
def WE (c : Cd) (te : TE) (Γ : List Ent) (Q : Ent → Prop) : Prop :=
  ∀ H0 F σ H, Ev c.K c.p H0 F Γ σ H → c.XOk H0 → ∀ Q' : VK, (∀ r v H', Q r → Stp c.p H H' → ResOk c.K c.p H H' r v → Q' v H') → te σ H Q'
def WA (c : Cd) (ta : TA) (Γ : List Ent) (Q : List Ent → Prop) : Prop :=
  ∀ H0 F σ H, Ev c.K c.p H0 F Γ σ H → c.XOk H0 → ∀ Q' : List V → Hp → Prop, (∀ rs vs H', Q rs → Stp c.p H H' → ResAll c.K c.p H H' rs vs → Q' vs H') → ta σ H Q'
def WT (c : Cd) (tt : TT) (Γ : List Ent) (Q : Bool → Prop) : Prop :=
  ∀ H0 F σ H, Ev c.K c.p H0 F Γ σ H → c.XOk H0 → ∀ Q' : Bool → Hp → Prop, (∀ b H', Q b → Stp c.p H H' → Q' b H') → tt σ H Q'
abbrev VE (c : Cd) (te : TE) (Γ : List Ent) (r : Ent) : Prop := WE c te Γ (fun z => z = r)
abbrev VA (c : Cd) (ta : TA) (Γ : List Ent) (rs : List Ent) : Prop := WA c ta Γ (fun z => z = rs)
abbrev VT (c : Cd) (tt : TT) (Γ : List Ent) (b : Bool) : Prop := WT c tt Γ (fun z => z = b)
/-- what is wanted behind a statement -/
structure Ps where
  nx : List Ent → Prop
  rt : Ent → Prop
  bk : List Ent → Prop := fun _ => False
  ct : List Ent → Prop := fun _ => False
structure PsOk (c : Cd) (H0 F : Hp) (P : Ps) (D : Ends) : Prop where
  nx : ∀ Γ σ H, P.nx Γ → Ev c.K c.p H0 F Γ σ H → D.nx σ H
  rt : ∀ r v H, P.rt r → Stp c.p H0 H → ResOk c.K c.p H0 H r v → D.rt v H
  bk : ∀ Γ σ H, P.bk Γ → Ev c.K c.p H0 F Γ σ H → D.bk σ H
  ct : ∀ Γ σ H, P.ct Γ → Ev c.K c.p H0 F Γ σ H → D.ct σ H
def WS (c : Cd) (t : TS) (Γ : List Ent) (P : Ps) : Prop :=
  ∀ H0 F σ H, Ev c.K c.p H0 F Γ σ H → c.XOk H0 → ∀ D : Ends, PsOk c H0 F P D → t D σ H
section
variable {c : Cd} {te ta tb : TE} {tA : TA} {tt tu : TT} {Γ : List Ent} {Q Q2 : Ent → Prop} {r ra rb z : Ent} {rs : List Ent}
theorem WE.mono (h : WE c te Γ Q) (k : ∀ r, Q r → Q2 r) : WE c te Γ Q2 := fun H0 F σ H e x Q' q => h H0 F σ H e x Q' fun r v H' a => q r v H' (k r a)
theorem we_v (h : VE c te Γ r) (q : Q r) : WE c te Γ Q := h.mono fun z e => by rw [e]; exact q
theorem WT.mono {Q Q2 : Bool → Prop} (h : WT c tt Γ Q) (k : ∀ r, Q r → Q2 r) : WT c tt Γ Q2 := fun H0 F σ H e x Q' q => h H0 F σ H e x Q' fun r H' a => q r H' (k r a)
theorem wt_v {Q : Bool → Prop} {b : Bool} (h : VT c tt Γ b) (q : Q b) : WT c tt Γ Q := h.mono fun z e => by rw [e]; exact q
theorem WA.mono {Q Q2 : List Ent → Prop} (h : WA c tA Γ Q) (k : ∀ r, Q r → Q2 r) : WA c tA Γ Q2 := fun H0 F σ H e x Q' q => h H0 F σ H e x Q' fun r v H' a => q r v H' (k r a)
theorem wa_v {Q : List Ent → Prop} (h : VA c tA Γ rs) (q : Q rs) : WA c tA Γ Q := h.mono fun z e => by rw [e]; exact q
/-! ### values -/
def Ent.isv : Ent → Bool
  | .no => false
  | .pn => false
  | .dk _ => false
  | .dt _ => false
  | _ => true
def Ent.toR : Ent → Ent
  | .ls ds => .ro ds
  | .la _ _ ds => .ro ds
  | e => e
theorem ve_var {i : Nat} {e : Ent} (h : Γ[i]? = some e) (n : e.isv = true) : VE c (tVar i) Γ e.toR := fun H0 F σ H ev x Q' q => by
  obtain ⟨s, hs, k1, k⟩ := ev.ent i e h
  cases e with
  | no => cases n
  | im d => obtain ⟨v, rfl, m⟩ := k; exact ⟨v, hs, q _ v H rfl (Stp.refl _ _) (res_im.2 m)⟩
  | ls ds => obtain ⟨a, o, rfl, _, _, _, m, vs, rfl, g⟩ := k1 _ rfl; exact ⟨_, hs, q _ _ H rfl (Stp.refl _ _) (res_ro.2 ⟨a, vs, rfl, .inl (.inl m), g⟩)⟩
  | la b vs ds => obtain ⟨a, o, rfl, _, _, _, m, rfl, g⟩ := k1 _ rfl; exact ⟨_, hs, q _ _ H rfl (Stp.refl _ _) (res_ro.2 ⟨a, vs, rfl, .inl (.inl m), g⟩)⟩
  | ro ds => obtain ⟨a, vs, rfl, _, m, g⟩ := k; exact ⟨_, hs, q _ _ H rfl (Stp.refl _ _) (res_ro.2 ⟨a, vs, rfl, m, g⟩)⟩
  | pen => obtain ⟨w, e, rfl⟩ := k; exact ⟨_, hs, q _ _ H rfl (Stp.refl _ _) (res_pen.2 ⟨w, e, rfl⟩)⟩
  | raw v => exact ⟨v, by rw [hs, show s = some v from k], q _ v H rfl (Stp.refl _ _) (res_raw.2 rfl)⟩
  | ex a d fs => obtain ⟨e, k⟩ := k; exact ⟨_, by rw [hs, e], q _ _ H rfl (Stp.refl _ _) ⟨(fun φ z => by cases z), rfl, k.step ev.stp ev.pok0⟩⟩
  | pn => cases n
  | dk d => cases n
  | dt d => cases n
theorem v_im {i : Nat} {d : PyData} (h : Γ[i]? = some (.im d) := by rfl) : VE c (tVar i) Γ (.im d) := ve_var h rfl
theorem v_ls {i : Nat} {d : List PyData} (h : Γ[i]? = some (.ls d) := by rfl) : VE c (tVar i) Γ (.ro d) := ve_var h rfl
theorem v_la {i : Nat} {a : Addr} {vs : List V} {d : List PyData} (h : Γ[i]? = some (.la a vs d) := by rfl) : VE c (tVar i) Γ (.ro d) := ve_var h rfl
theorem v_ro {i : Nat} {d : List PyData} (h : Γ[i]? = some (.ro d) := by rfl) : VE c (tVar i) Γ (.ro d) := ve_var h rfl
theorem v_pen {i : Nat} (h : Γ[i]? = some .pen := by rfl) : VE c (tVar i) Γ .pen := ve_var h rfl
theorem v_raw {i : Nat} {v : V} (h : Γ[i]? = some (.raw v) := by rfl) : VE c (tVar i) Γ (.raw v) := ve_var h rfl
theorem v_ex {i : Nat} {a d : Addr} {fs : List (Str × PyData)} (h : Γ[i]? = some (.ex a d fs) := by rfl) : VE c (tVar i) Γ (.ex a d fs) := ve_var h rfl
theorem v_int {n : Int} : VE c (tC (.int n)) Γ (I n) := fun H0 F σ H ev x Q' q => q _ _ H rfl (Stp.refl _ _) (res_im.2 (.int n))
theorem v_bl {n : Bool} : VE c (tC (.bl n)) Γ (B n) := fun H0 F σ H ev x Q' q => q _ _ H rfl (Stp.refl _ _) (res_im.2 (.bl n))
theorem v_non : VE c (tC .non) Γ (.im .none) := fun H0 F σ H ev x Q' q => q _ _ H rfl (Stp.refl _ _) (res_im.2 .non)
theorem v_str {n : Str} : VE c (tC (.str n)) Γ (.im (.str n)) := fun H0 F σ H ev x Q' q => q _ _ H rfl (Stp.refl _ _) (res_im.2 (.str n))
theorem v_c {v : V} : VE c (tC v) Γ (.raw v) := fun H0 F σ H ev x Q' q => q _ _ H rfl (Stp.refl _ _) (res_raw.2 rfl)
/-! ### two places -/
structure Op2 (c : Cd) (r : R2) (ra rb z : Ent) : Prop where
  run : ∀ x y H H', POk c.p H → Stp c.p H H' → ResOk c.K c.p H H' ra x → ResOk c.K c.p H H' rb y → ∀ Q' : VK, (∀ v H'', Stp c.p H' H'' → ResOk c.K c.p H' H'' z v → Q' v H'') → r x y H' Q'
theorem we_op {r : R2} (h : WE c ta Γ fun ra => WE c tb Γ fun rb => ∃ z, Op2 c r ra rb z ∧ Q z) : WE c (tOp r ta tb) Γ Q := fun H0 F σ H ev x Q' q => by
  refine h H0 F σ H ev x _ fun ra va H1 h1 s1 r1 => ?_
  refine h1 H0 F σ H1 (ev.step s1) x _ fun rb vb H2 ⟨z, o, qz⟩ s2 r2 => ?_
  have pk := ev.pok
  refine o.run va vb H H2 pk (s1.trans s2) (r1.step s2 pk (pk.step s1)) (r2.back s1 pk) _ fun v H3 s3 r3 => ?_
  exact q z v H3 qz ((s1.trans s2).trans s3) (r3.back (s1.trans s2) pk)
theorem v_op {r : R2} (o : Op2 c r ra rb z) (ha : VE c ta Γ ra) (hb : VE c tb Γ rb) : VE c (tOp r ta tb) Γ z :=
  we_op (we_v ha (we_v hb ⟨z, o, rfl⟩))
theorem o_I0 {g : Int → Int → Int} {i j : Int} : Op2 c (rI0 fun i j => .int (g i j)) (I i) (I j) (I (g i j)) := ⟨fun x y H H' _ s a b Q' q => by
  have a := Im.intv a.2
  have b := Im.intv b.2
  subst a b
  exact ⟨i, j, rfl, rfl, q _ H' (Stp.refl _ _) (res_im.2 (.int _))⟩⟩
theorem o_IC {C : Int → Int → Prop} {g : Int → Int → Int} {i j : Int} (hc : C i j) : Op2 c (rI C fun i j => .int (g i j)) (I i) (I j) (I (g i j)) := ⟨fun x y H H' _ s a b Q' q => by
  have a := Im.intv a.2
  have b := Im.intv b.2
  subst a b
  exact ⟨i, j, rfl, rfl, hc, q _ H' (Stp.refl _ _) (res_im.2 (.int _))⟩⟩
theorem o_B0 {g : Int → Int → Bool} {i j : Int} : Op2 c (rI0 fun i j => .bl (g i j)) (I i) (I j) (B (g i j)) := ⟨fun x y H H' _ s a b Q' q => by
  have a := Im.intv a.2
  have b := Im.intv b.2
  subst a b
  exact ⟨i, j, rfl, rfl, q _ H' (Stp.refl _ _) (res_im.2 (.bl _))⟩⟩
theorem o_add {i j : Int} : Op2 c (rI0 fun i j => .int (i + j)) (I i) (I j) (I (i + j)) := o_I0
theorem o_sub {i j : Int} : Op2 c (rI0 fun i j => .int (i - j)) (I i) (I j) (I (i - j)) := o_I0
theorem o_mul {i j : Int} (h : CMul i j) : Op2 c (rI CMul fun i j => .int (i * j)) (I i) (I j) (I (i * j)) := o_IC h
theorem o_mulW {i j : Int} (h : CMulW i j) : Op2 c (rI CMulW fun i j => .int (i * j)) (I i) (I j) (I (i * j)) := o_IC h
theorem o_mod {i j : Int} (h : 0 < j) : Op2 c (rI (fun _ j => 0 < j) fun i j => .int (i % j)) (I i) (I j) (I (i % j)) := o_IC h
theorem o_fdiv {i j : Int} (h : CDiv i j) : Op2 c (rI CDiv fun i j => .int (i / j)) (I i) (I j) (I (i / j)) := o_IC h
theorem o_fdivW {i j : Int} (h : CDivW i j) : Op2 c (rI CDivW fun i j => .int (i / j)) (I i) (I j) (I (i / j)) := o_IC h
theorem o_pow {i j : Int} (h : CPow i j) : Op2 c (rI CPow fun i j => .int (i ^ j.toNat)) (I i) (I j) (I (i ^ j.toNat)) := o_IC h
theorem o_lt {i j : Int} : Op2 c (rI0 fun i j => .bl (decide (i < j))) (I i) (I j) (B (decide (i < j))) := o_B0
theorem o_le {i j : Int} : Op2 c (rI0 fun i j => .bl (decide (i ≤ j))) (I i) (I j) (B (decide (i ≤ j))) := o_B0
theorem o_gt {i j : Int} : Op2 c (rI0 fun i j => .bl (decide (j < i))) (I i) (I j) (B (decide (j < i))) := o_B0
theorem o_ge {i j : Int} : Op2 c (rI0 fun i j => .bl (decide (j ≤ i))) (I i) (I j) (B (decide (j ≤ i))) := o_B0
theorem o_eqI {i j : Int} : Op2 c rEq (I i) (I j) (B (decide (i = j))) := ⟨fun x y H H' _ s a b Q' q => by
  have a := Im.intv a.2
  have b := Im.intv b.2
  subst a b
  refine ⟨rfl, ?_⟩
  have := q _ H' (Stp.refl _ _) (res_im.2 (.bl (decide (i = j))))
  rw [show decide (V.int i = V.int j) = decide (i = j) by simp]
  exact this⟩
theorem o_neI {i j : Int} : Op2 c rNe (I i) (I j) (B (!decide (i = j))) := ⟨fun x y H H' _ s a b Q' q => by
  have a := Im.intv a.2
  have b := Im.intv b.2
  subst a b
  refine ⟨rfl, ?_⟩
  have := q _ H' (Stp.refl _ _) (res_im.2 (.bl (!decide (i = j))))
  rw [show decide (V.int i = V.int j) = decide (i = j) by simp]
  exact this⟩
/-- == and != of data -/
def Ent.dat : Ent → Option PyData
  | .im d => some d
  | .ro ds => some (.list ds)
  | .ls ds => some (.list ds)
  | _ => none
theorem ResOk.dp {e : Ent} {d : PyData} {H0 H : Hp} {v : V} (h : ResOk c.K c.p H0 H e v) (he : e.dat = some d) : Dp c.K H v d := by
  cases e with
  | im d' => cases he; exact Im.dp h.2
  | ro ds => cases he; obtain ⟨a, vs, rfl, s, m⟩ := res_ro.1 h; exact .lst s m.dp
  | ls ds => cases he; obtain ⟨a, vs, rfl, _, s, m⟩ := res_ls.1 h; exact .lst (.inl (.inl s)) m.dp
  | no => cases he
  | pen => cases he
  | pn => cases he
  | la b vs d => cases he
  | dk d => cases he
  | dt d => cases he
  | raw v => cases he
  | ex a d fs => cases he
theorem o_eqD {d e : PyData} (h1 : ra.dat = some d) (h2 : rb.dat = some e) (s1 : SeqAt.shaped d = true) (s2 : SeqAt.shaped e = true) : Op2 c (rEqD c.K) ra rb (B (PyData.eqv d e)) := ⟨fun x y H H' _ s a b Q' q =>
  ⟨d, e, a.dp h1, b.dp h2, s1, s2, q _ H' (Stp.refl _ _) (res_im.2 (.bl _))⟩⟩
theorem o_neD {d e : PyData} (h1 : ra.dat = some d) (h2 : rb.dat = some e) (s1 : SeqAt.shaped d = true) (s2 : SeqAt.shaped e = true) : Op2 c (rNeD c.K) ra rb (B (!PyData.eqv d e)) := ⟨fun x y H H' _ s a b Q' q =>
  ⟨d, e, a.dp h1, b.dp h2, s1, s2, q _ H' (Stp.refl _ _) (res_im.2 (.bl _))⟩⟩
def isNon : PyData → Bool
  | .none => true
  | _ => false
theorem o_isN {d : PyData} : Op2 c (fun x y H Q => y = .non ∧ Q (.bl (decide (x = .non))) H) (.im d) (.im .none) (B (isNon d)) := ⟨fun x y H H' _ s a b Q' q => by
  have b := Im.nonv b.2
  subst b
  refine ⟨rfl, ?_⟩
  have e : decide (x = V.non) = isNon d := by
    have a := a.2
    cases a <;> simp [isNon]
  rw [e]
  exact q _ H' (Stp.refl _ _) (res_im.2 (.bl _))⟩
theorem o_notN {d : PyData} : Op2 c (fun x y H Q => y = .non ∧ Q (.bl (!decide (x = .non))) H) (.im d) (.im .none) (B (!isNon d)) := ⟨fun x y H H' _ s a b Q' q => by
  have b := Im.nonv b.2
  subst b
  refine ⟨rfl, ?_⟩
  have e : (!decide (x = V.non)) = !isNon d := by
    have a := a.2
    cases a <;> simp [isNon]
  rw [e]
  exact q _ H' (Stp.refl _ _) (res_im.2 (.bl _))⟩
theorem o_ixT {ds : List PyData} {i : Int} {d : PyData} (h : atI ds i = some d) : Op2 c (rIxT c.K) (.im (.tuple ds)) (I i) (.im d) := ⟨fun x y H H' _ s a b Q' q => by
  have b := Im.intv b.2
  subst b
  cases a.2 with
  | tup hs ms =>
    obtain ⟨j, e1, e2, e3, e4, e5⟩ := atI_get h
    obtain ⟨v, ev, mv⟩ := ms.get e2
    refine ⟨_, _, i, v, rfl, rfl, hs, ?_, q v H' (Stp.refl _ _) (res_im.2 mv)⟩
    unfold atI at h ⊢
    rw [ms.length]
    cases z : ixN ds.length i with
    | none => rw [z] at h; cases h
    | some k =>
      rw [z] at h
      obtain ⟨v', ev', mv'⟩ := ms.get (show ds[k]? = some d from h)
      have := (ixN_seq z).1.symm.trans e1
      cases this
      exact ev⟩
theorem o_ixL {ds : List PyData} {i : Int} {d : PyData} (h : atI ds i = some d) : Op2 c (rIxL c.K) (.ro ds) (I i) (.im d) := ⟨fun x y H H' _ s a b Q' q => by
  have b := Im.intv b.2
  subst b
  obtain ⟨ad, vs, rfl, hs, ms⟩ := res_ro.1 a
  obtain ⟨j, e1, e2, e3, e4, e5⟩ := atI_get h
  obtain ⟨v, ev, mv⟩ := ms.get e2
  refine ⟨_, _, i, v, rfl, rfl, hs, ?_, q v H' (Stp.refl _ _) (res_im.2 mv)⟩
  unfold atI at h ⊢
  rw [ms.length]
  cases z : ixN ds.length i with
  | none => rw [z] at h; cases h
  | some k =>
    have := (ixN_seq z).1.symm.trans e1
    cases this
    exact ev⟩
/-! ### one place, calls of built-ins -/
structure Op1 (c : Cd) (r : V → Hp → VK → Prop) (ra z : Ent) : Prop where
  run : ∀ x H H', POk c.p H → Stp c.p H H' → ResOk c.K c.p H H' ra x → ∀ Q' : VK, (∀ v H'', Stp c.p H' H'' → ResOk c.K c.p H' H'' z v → Q' v H'') → r x H' Q'
theorem we_un {r : V → Hp → VK → Prop} (h : WE c ta Γ fun ra => ∃ z, Op1 c r ra z ∧ Q z) : WE c (tUn r ta) Γ Q := fun H0 F σ H ev x Q' q => by
  refine h H0 F σ H ev x _ fun ra va H1 ⟨z, o, qz⟩ s1 r1 => ?_
  refine o.run va H H1 ev.pok s1 r1 _ fun v H3 s3 r3 => ?_
  exact q z v H3 qz (s1.trans s3) (r3.back s1 ev.pok)
theorem v_un {r : V → Hp → VK → Prop} (o : Op1 c r ra z) (h : VE c ta Γ ra) : VE c (tUn r ta) Γ z := we_un (we_v h ⟨z, o, rfl⟩)
theorem o_neg {i : Int} : Op1 c (rU fun i => .int (-i)) (I i) (I (-i)) := ⟨fun x H H' _ s a Q' q => by
  have a := Im.intv a.2
  subst a
  exact ⟨i, rfl, q _ H' (Stp.refl _ _) (res_im.2 (.int _))⟩⟩
structure OpN (c : Cd) (r : List V → Hp → VK → Prop) (rs : List Ent) (z : Ent) : Prop where
  run : ∀ xs H H', POk c.p H → Stp c.p H H' → ResAll c.K c.p H H' rs xs → ∀ Q' : VK, (∀ v H'', Stp c.p H' H'' → ResOk c.K c.p H' H'' z v → Q' v H'') → r xs H' Q'
theorem we_cb {r : List V → Hp → VK → Prop} (h : WA c tA Γ fun rs => ∃ z, OpN c r rs z ∧ Q z) : WE c (tCB r tA) Γ Q := fun H0 F σ H ev x Q' q => by
  refine h H0 F σ H ev x _ fun ra va H1 ⟨z, o, qz⟩ s1 r1 => ?_
  refine o.run va H H1 ev.pok s1 r1 _ fun v H3 s3 r3 => ?_
  exact q z v H3 qz (s1.trans s3) (r3.back s1 ev.pok)
theorem v_cb {r : List V → Hp → VK → Prop} (o : OpN c r rs z) (h : VA c tA Γ rs) : VE c (tCB r tA) Γ z := we_cb (wa_v h ⟨z, o, rfl⟩)
/-! ### arguments -/
theorem wa_nil {Q : List Ent → Prop} (q : Q []) : WA c tNil Γ Q := fun H0 F σ H ev x Q' k => k [] [] H q (Stp.refl _ _) rfl
theorem wa_cons {t : TA} {Q : List Ent → Prop} (h : WE c ta Γ fun r => WA c t Γ fun rs => Q (r :: rs)) : WA c (tCons ta t) Γ Q := fun H0 F σ H ev x Q' q => by
  refine h H0 F σ H ev x _ fun ra va H1 h1 s1 r1 => ?_
  refine h1 H0 F σ H1 (ev.step s1) x _ fun rs vs H2 h2 s2 r2 => ?_
  exact q (ra :: rs) (va :: vs) H2 h2 (s1.trans s2) ⟨va, vs, rfl, r1.step s2 ev.pok (ev.pok.step s1), r2.back s1 ev.pok, fun ho j s hs hso hv => by
    obtain ⟨a, e, n⟩ := r2.own hs hso hv
    obtain ⟨φ, hφ⟩ := Option.isSome_iff_exists.mp ho
    obtain ⟨b, o, e', _, _, g, _⟩ := r1.1 φ hφ
    rw [e] at e'; cases e'
    rw [n] at g; cases g⟩
theorem a_nil : VA c tNil Γ [] := wa_nil rfl
theorem a_cons {t : TA} (h : VE c ta Γ r) (k : VA c t Γ rs) : VA c (tCons ta t) Γ (r :: rs) := wa_cons (we_v h (wa_v k rfl))
/-! ### built-ins -/
theorem all1 {K : PySem.W.Frag} {p : Option Addr} {H0 H : Hp} {r : Ent} {xs : List V} (h : ResAll K p H0 H [r] xs) : ∃ v, xs = [v] ∧ ResOk K p H0 H r v := by
  obtain ⟨v, ws, e, a, b, _⟩ := h
  have b : ws = [] := b
  exact ⟨v, by rw [e, b], a⟩
theorem all2 {K : PySem.W.Frag} {p : Option Addr} {H0 H : Hp} {r r' : Ent} {xs : List V} (h : ResAll K p H0 H [r, r'] xs) : ∃ v w, xs = [v, w] ∧ ResOk K p H0 H r v ∧ ResOk K p H0 H r' w := by
  obtain ⟨v, ws, e, a, b, _⟩ := h
  obtain ⟨w, rfl, b'⟩ := all1 b
  exact ⟨v, w, e, a, b'⟩
theorem n_int {i : Int} : OpN c (fun xs H Q => (∃ i, xs = [.int i] ∧ Q (.int i) H) ∨ ∃ k, xs = [.bl k] ∧ Q (.int (if k then 1 else 0)) H) [I i] (I i) := ⟨fun xs H H' _ s a0 Q' q => by
  obtain ⟨v, rfl, a⟩ := all1 a0
  have a := Im.intv a.2
  subst a
  exact .inl ⟨i, rfl, q _ H' (Stp.refl _ _) (res_im.2 (.int _))⟩⟩
theorem n_intB {b : Bool} : OpN c (fun xs H Q => (∃ i, xs = [.int i] ∧ Q (.int i) H) ∨ ∃ k, xs = [.bl k] ∧ Q (.int (if k then 1 else 0)) H) [B b] (I (if b then 1 else 0)) := ⟨fun xs H H' _ s a0 Q' q => by
  obtain ⟨v, rfl, a⟩ := all1 a0
  have a := Im.blv a.2
  subst a
  exact .inr ⟨b, rfl, q _ H' (Stp.refl _ _) (res_im.2 (.int _))⟩⟩
theorem n_abs {i : Int} : OpN c (fun xs H Q => ∃ i, xs = [.int i] ∧ Q (.int (if i < 0 then -i else i)) H) [I i] (I (if i < 0 then -i else i)) := ⟨fun xs H H' _ s a0 Q' q => by
  obtain ⟨v, rfl, a⟩ := all1 a0
  have a := Im.intv a.2
  subst a
  exact ⟨i, rfl, q _ H' (Stp.refl _ _) (res_im.2 (.int _))⟩⟩
theorem n_max2 {i j : Int} : OpN c (fun xs H Q => ∃ i j, xs = [.int i, .int j] ∧ Q (.int (if j > i then j else i)) H) [I i, I j] (I (if j > i then j else i)) := ⟨fun xs H H' _ s a0 Q' q => by
  obtain ⟨v, w, rfl, a, b⟩ := all2 a0
  have a := Im.intv a.2
  have b := Im.intv b.2
  subst a b
  exact ⟨i, j, rfl, q _ H' (Stp.refl _ _) (res_im.2 (.int _))⟩⟩
abbrev rLen (K : PySem.W.Frag) : List V → Hp → VK → Prop := fun xs H Q => ∃ p ys, xs = [.ref p] ∧ (SqL K H p ys ∨ SqT K H p ys) ∧ Q (.int ys.length) H
theorem n_lenT {ds : List PyData} : OpN c (rLen c.K) [.im (.tuple ds)] (I ds.length) := ⟨fun xs H H' _ s a0 Q' q => by
  obtain ⟨v, rfl, a⟩ := all1 a0
  cases a.2 with
  | tup hs ms =>
    refine ⟨_, _, rfl, .inr hs, ?_⟩
    rw [ms.length]
    exact q _ H' (Stp.refl _ _) (res_im.2 (.int _))⟩
theorem n_lenL {ds : List PyData} : OpN c (rLen c.K) [.ro ds] (I ds.length) := ⟨fun xs H H' _ s a0 Q' q => by
  obtain ⟨v, rfl, a⟩ := all1 a0
  obtain ⟨ad, vs, rfl, hs, ms⟩ := res_ro.1 a
  refine ⟨_, _, rfl, .inl hs, ?_⟩
  rw [ms.length]
  exact q _ H' (Stp.refl _ _) (res_im.2 (.int _))⟩
abbrev rTupOf (K : PySem.W.Frag) : List V → Hp → VK → Prop := fun xs H Q => ∃ p ys, xs = [.ref p] ∧ ((SqL K H p ys ∧ ∀ l, H l = none → Q (.ref l) (upd H l (.tup ys))) ∨ (SqT K H p ys ∧ Q (.ref p) H))
theorem n_tupT {ds : List PyData} : OpN c (rTupOf c.K) [.im (.tuple ds)] (.im (.tuple ds)) := ⟨fun xs H H' _ s a0 Q' q => by
  obtain ⟨v, rfl, a⟩ := all1 a0
  cases a.2 with
  | tup hs ms => exact ⟨_, _, rfl, .inr ⟨hs, q _ H' (Stp.refl _ _) (res_im.2 (.tup hs ms))⟩⟩⟩
theorem im_new {K : PySem.W.Frag} {H : Hp} {p : Option Addr} {a : Addr} {o : HO} (hp : POk p H) (n : H a = none) : Tup H (upd H a o) := (Stp.new (p := p) n).tup hp
theorem n_tupL {ds : List PyData} : OpN c (rTupOf c.K) [.ro ds] (.im (.tuple ds)) := ⟨fun xs H H' hp s a0 Q' q => by
  obtain ⟨v, rfl, a⟩ := all1 a0
  obtain ⟨ad, vs, rfl, hs, ms⟩ := res_ro.1 a
  refine ⟨_, _, rfl, .inl ⟨hs, fun l hl => ?_⟩⟩
  exact q _ _ (Stp.new hl) (res_im.2 (.tup (SqT.of upd_same) (ms.tupS ((Stp.new hl).tup (hp.step s)))))⟩
theorem n_tupN {ds : List PyData} : OpN c (rTupOf c.K) [.ls ds] (.im (.tuple ds)) := ⟨fun xs H H' hp s a0 Q' q => by
  obtain ⟨v, rfl, a⟩ := all1 a0
  obtain ⟨ad, vs, rfl, _, hs, ms⟩ := res_ls.1 a
  refine ⟨_, _, rfl, .inl ⟨.inl (.inl hs), fun l hl => ?_⟩⟩
  exact q _ _ (Stp.new hl) (res_im.2 (.tup (SqT.of upd_same) (ms.tupS ((Stp.new hl).tup (hp.step s)))))⟩
abbrev rListOf (K : PySem.W.Frag) : List V → Hp → VK → Prop := fun xs H Q => ∃ p ys, xs = [.ref p] ∧ (SqL K H p ys ∨ SqT K H p ys) ∧ ∀ l, H l = none → Q (.ref l) (upd H l (.lst ys))
theorem n_listT {ds : List PyData} : OpN c (rListOf c.K) [.im (.tuple ds)] (.ls ds) := ⟨fun xs H H' hp s a0 Q' q => by
  obtain ⟨v, rfl, a⟩ := all1 a0
  cases a.2 with
  | tup hs ms =>
    refine ⟨_, _, rfl, .inr hs, fun l hl => ?_⟩
    exact q _ _ (Stp.new hl) (res_ls.2 ⟨l, _, rfl, hl, upd_same, ms.tupS ((Stp.new hl).tup (hp.step s))⟩)⟩
theorem n_listL {ds : List PyData} : OpN c (rListOf c.K) [.ro ds] (.ls ds) := ⟨fun xs H H' hp s a0 Q' q => by
  obtain ⟨v, rfl, a⟩ := all1 a0
  obtain ⟨ad, vs, rfl, hs, ms⟩ := res_ro.1 a
  refine ⟨_, _, rfl, .inl hs, fun l hl => ?_⟩
  exact q _ _ (Stp.new hl) (res_ls.2 ⟨l, _, rfl, hl, upd_same, ms.tupS ((Stp.new hl).tup (hp.step s))⟩)⟩
/-! ### displays -/
theorem we_tup {t : TA} (h : WA c t Γ fun rs => ∃ ds : List PyData, rs = ds.map Ent.im ∧ ds.length ≤ 1000000 ∧ Q (.im (.tuple ds))) : WE c (tTup t) Γ Q := fun H0 F σ H ev x Q' q => by
  refine h H0 F σ H ev x _ fun rs vs H1 ⟨ds, e, hl, qq⟩ s1 r1 => ?_
  subst e
  have ims : ∀ {ds : List PyData} {vs : List V}, ResAll c.K c.p H H1 (ds.map Ent.im) vs → Ims c.K H1 vs ds := by
    intro ds
    induction ds with
    | nil => intro vs h; rw [show vs = [] from h]; exact .nil
    | cons d r ih => intro vs h; obtain ⟨v, ws, rfl, a, b, _⟩ := h; exact .cons a.2 (ih b)
  have m := ims r1
  refine ⟨by rw [m.length, sizeLine_eq]; omega, fun p hp => ?_⟩
  exact q _ _ _ qq (s1.trans (Stp.new hp)) (res_im.2 (.tup (SqT.of upd_same) (m.tupS ((Stp.new hp).tup (ev.pok.step s1)))))
theorem v_tup {t : TA} {ds : List PyData} (h : VA c t Γ (ds.map Ent.im)) (hl : ds.length ≤ 1000000 := by decide) : VE c (tTup t) Γ (.im (.tuple ds)) := we_tup (wa_v h ⟨ds, rfl, hl, rfl⟩)
theorem we_lst {t : TA} (h : WA c t Γ fun rs => ∃ ds : List PyData, rs = ds.map Ent.im ∧ ds.length ≤ 1000000 ∧ Q (.ls ds)) : WE c (tLst t) Γ Q := fun H0 F σ H ev x Q' q => by
  refine h H0 F σ H ev x _ fun rs vs H1 ⟨ds, e, hl, qq⟩ s1 r1 => ?_
  subst e
  have ims : ∀ {ds : List PyData} {vs : List V}, ResAll c.K c.p H H1 (ds.map Ent.im) vs → Ims c.K H1 vs ds := by
    intro ds
    induction ds with
    | nil => intro vs h; rw [show vs = [] from h]; exact .nil
    | cons d r ih => intro vs h; obtain ⟨v, ws, rfl, a, b, _⟩ := h; exact .cons a.2 (ih b)
  have m := ims r1
  refine ⟨by rw [m.length, sizeLine_eq]; omega, fun p hp => ?_⟩
  exact q _ _ _ qq (s1.trans (Stp.new hp)) (res_ls.2 ⟨p, _, rfl, s1.back ev.pok hp, upd_same, m.tupS ((Stp.new hp).tup (ev.pok.step s1))⟩)
theorem v_lst {t : TA} {ds : List PyData} (h : VA c t Γ (ds.map Ent.im)) (hl : ds.length ≤ 1000000 := by decide) : VE c (tLst t) Γ (.ls ds) := we_lst (wa_v h ⟨ds, rfl, hl, rfl⟩)
/-! ### tests -/
theorem wt_test {Q : Bool → Prop} (h : WE c te Γ fun r => ∃ b, r = B b ∧ Q b) : WT c (tTest te) Γ Q := fun H0 F σ H ev x Q' q => by
  refine h H0 F σ H ev x _ fun r v H1 ⟨b, e, qb⟩ s1 r1 => ?_
  subst e
  have r1 := Im.blv r1.2
  exact ⟨b, r1, q b H1 qb s1⟩
theorem t_test {b : Bool} (h : VE c te Γ (B b)) : VT c (tTest te) Γ b := wt_test (we_v h ⟨b, rfl, rfl⟩)
theorem wt_B {Q : Bool → Prop} (h : WE c te Γ fun r => ∃ b, r = B b ∧ Q b) : WT c (tB te) Γ Q := wt_test h
theorem t_B {b : Bool} (h : VE c te Γ (B b)) : VT c (tB te) Γ b := wt_test (we_v h ⟨b, rfl, rfl⟩)
theorem wt_and {Q : Bool → Prop} (h : WT c tt Γ fun a => (a = true → WT c tu Γ Q) ∧ (a = false → Q false)) : WT c (tAnd tt tu) Γ Q := fun H0 F σ H ev x Q' q => by
  refine h H0 F σ H ev x _ fun a H1 ⟨ht, hf⟩ s1 => ?_
  cases a with
  | true => exact ht rfl H0 F σ H1 (ev.step s1) x _ fun b H2 qb s2 => q b H2 qb (s1.trans s2)
  | false => exact q false H1 (hf rfl) s1
theorem wt_or {Q : Bool → Prop} (h : WT c tt Γ fun a => (a = false → WT c tu Γ Q) ∧ (a = true → Q true)) : WT c (tOr tt tu) Γ Q := fun H0 F σ H ev x Q' q => by
  refine h H0 F σ H ev x _ fun a H1 ⟨ht, hf⟩ s1 => ?_
  cases a with
  | false => exact ht rfl H0 F σ H1 (ev.step s1) x _ fun b H2 qb s2 => q b H2 qb (s1.trans s2)
  | true => exact q true H1 (hf rfl) s1
theorem wt_not {Q : Bool → Prop} (h : WT c tt Γ fun a => Q (!a)) : WT c (tNot tt) Γ Q := fun H0 F σ H ev x Q' q => h H0 F σ H ev x _ fun a H1 qa s1 => q (!a) H1 qa s1
theorem t_and {a b : Bool} (h : VT c tt Γ a) (k : a = true → VT c tu Γ b) : VT c (tAnd tt tu) Γ (a && b) := wt_and (wt_v h ⟨fun e => by rw [e]; exact k e, fun e => by rw [e]; rfl⟩)
theorem t_or {a b : Bool} (h : VT c tt Γ a) (k : a = false → VT c tu Γ b) : VT c (tOr tt tu) Γ (a || b) := wt_or (wt_v h ⟨fun e => by rw [e]; exact k e, fun e => by rw [e]; rfl⟩)
theorem t_not {a : Bool} (h : VT c tt Γ a) : VT c (tNot tt) Γ (!a) := wt_not (wt_v h rfl)
theorem we_and {Q : Ent → Prop} (h : WE c ta Γ fun r => ∃ a, r = B a ∧ (a = true → WE c tb Γ Q) ∧ (a = false → Q (B false))) : WE c (tAndV ta tb) Γ Q := fun H0 F σ H ev x Q' q => by
  refine h H0 F σ H ev x _ fun r v H1 ⟨a, e, ht, hf⟩ s1 r1 => ?_
  subst e
  have r1 := Im.blv r1.2
  refine ⟨a, r1, ?_⟩
  cases a with
  | true => exact ht rfl H0 F σ H1 (ev.step s1) x _ fun r v H2 qb s2 r2 => q r v H2 qb (s1.trans s2) (r2.back s1 ev.pok)
  | false => exact q (B false) _ H1 (hf rfl) s1 (res_im.2 (.bl false))
theorem we_or {Q : Ent → Prop} (h : WE c ta Γ fun r => ∃ a, r = B a ∧ (a = false → WE c tb Γ Q) ∧ (a = true → Q (B true))) : WE c (tOrV ta tb) Γ Q := fun H0 F σ H ev x Q' q => by
  refine h H0 F σ H ev x _ fun r v H1 ⟨a, e, ht, hf⟩ s1 r1 => ?_
  subst e
  have r1 := Im.blv r1.2
  refine ⟨a, r1, ?_⟩
  cases a with
  | false => exact ht rfl H0 F σ H1 (ev.step s1) x _ fun r v H2 qb s2 r2 => q r v H2 qb (s1.trans s2) (r2.back s1 ev.pok)
  | true => exact q (B true) _ H1 (hf rfl) s1 (res_im.2 (.bl true))
theorem we_not (h : WE c ta Γ fun r => ∃ a, r = B a ∧ Q (B (!a))) : WE c (tNotV ta) Γ Q := fun H0 F σ H ev x Q' q => by
  refine h H0 F σ H ev x _ fun r v H1 ⟨a, e, qa⟩ s1 r1 => ?_
  subst e
  have r1 := Im.blv r1.2
  exact ⟨a, r1, q _ _ H1 qa s1 (res_im.2 (.bl _))⟩
theorem v_and {a b : Bool} (h : VE c ta Γ (B a)) (k : a = true → VE c tb Γ (B b)) : VE c (tAndV ta tb) Γ (B (a && b)) := we_and (we_v h ⟨a, rfl, fun e => by rw [e]; exact k e, fun e => by rw [e]; rfl⟩)
theorem v_or {a b : Bool} (h : VE c ta Γ (B a)) (k : a = false → VE c tb Γ (B b)) : VE c (tOrV ta tb) Γ (B (a || b)) := we_or (we_v h ⟨a, rfl, fun e => by rw [e]; exact k e, fun e => by rw [e]; rfl⟩)
theorem v_not {a : Bool} (h : VE c ta Γ (B a)) : VE c (tNotV ta) Γ (B (!a)) := we_not (we_v h ⟨a, rfl, rfl⟩)
theorem we_if {t : TT} (h : WT c t Γ fun b => (b = true → WE c ta Γ Q) ∧ (b = false → WE c tb Γ Q)) : WE c (tIf t ta tb) Γ Q := fun H0 F σ H ev x Q' q => by
  refine h H0 F σ H ev x _ fun b H1 ⟨ht, hf⟩ s1 => ?_
  cases b with
  | true => exact ht rfl H0 F σ H1 (ev.step s1) x _ fun r v H2 qb s2 r2 => q r v H2 qb (s1.trans s2) (r2.back s1 ev.pok)
  | false => exact hf rfl H0 F σ H1 (ev.step s1) x _ fun r v H2 qb s2 r2 => q r v H2 qb (s1.trans s2) (r2.back s1 ev.pok)
theorem v_if {t : TT} {b : Bool} (h : VT c t Γ b) (h1 : b = true → VE c ta Γ r) (h2 : b = false → VE c tb Γ r) : VE c (tIf t ta tb) Γ r := we_if (wt_v h ⟨h1, h2⟩)
theorem ve_is (h : VE c te Γ r) (e : r = z) : VE c te Γ z := by rw [← e]; exact h
theorem vt_is {a b : Bool} (h : VT c tt Γ a) (e : a = b) : VT c tt Γ b := by rw [← e]; exact h
/-! ### slices, + of tuples and lists -/
def WO (c : Cd) (to : TO) (Γ : List Ent) (o : Option Int) : Prop :=
  ∀ H0 F σ H, Ev c.K c.p H0 F Γ σ H → c.XOk H0 → ∀ Q' : Option Int → Hp → Prop, (∀ H', Stp c.p H H' → Q' o H') → to σ H Q'
theorem p_no : WO c tNoPart Γ none := fun H0 F σ H ev x Q' q => q H (Stp.refl _ _)
theorem p_so {i : Int} (h : VE c te Γ (I i)) : WO c (tPart te) Γ (some i) := fun H0 F σ H ev x Q' q => h H0 F σ H ev x _ fun r v H1 e s1 r1 => by
  subst e
  exact ⟨i, Im.intv r1.2, q H1 s1⟩
/-- a cut of data -/
def cutD (xs : List PyData) (lo hi : Option Int) : List PyData := (xs.drop (HT.sIx xs.length 0 lo)).take (HT.sIx xs.length xs.length hi - HT.sIx xs.length 0 lo)
theorem cut_ims {K : PySem.W.Frag} {H : Hp} {vs : List V} {ds : List PyData} (m : Ims K H vs ds) (lo hi : Option Int) : Ims K H (cutV vs lo hi) (cutD ds lo hi) := by
  unfold cutV cutD
  rw [m.length]
  exact (m.drop _).take _
theorem we_slT {tl th : TO} {lo hi : Option Int} (h : WE c te Γ fun r => WO c tl Γ lo ∧ WO c th Γ hi ∧ ∃ ds, r = .im (.tuple ds) ∧ ¬ (HT.sIx ds.length 0 lo = 0 ∧ HT.sIx ds.length ds.length hi = ds.length) ∧ Q (.im (.tuple (cutD ds lo hi)))) : WE c (tSl (rSlT c.K) te tl th) Γ Q := fun H0 F σ H ev x Q' q => by
  refine h H0 F σ H ev x _ fun r v H1 ⟨hl, hh, ds, e, hn, qq⟩ s1 r1 => ?_
  subst e
  refine hl H0 F σ H1 (ev.step s1) x _ fun H2 s2 => ?_
  refine hh H0 F σ H2 ((ev.step s1).step s2) x _ fun H3 s3 => ?_
  have ev3 := ((ev.step s1).step s2).step s3
  cases ((r1.step s2 ev.pok (ev.pok.step s1)).step s3 ev.pok ((ev.step s1).step s2).pok).2 with
  | tup hs ms =>
    refine ⟨_, _, rfl, hs, by rw [ms.length]; exact hn, fun p hp => ?_⟩
    exact q _ _ _ qq (((s1.trans s2).trans s3).trans (Stp.new hp)) (res_im.2 (.tup (SqT.of upd_same) ((cut_ims ms lo hi).tupS ((Stp.new hp).tup ev3.pok))))
theorem v_slT {tl th : TO} {lo hi : Option Int} {ds : List PyData} (h : VE c te Γ (.im (.tuple ds))) (hl : WO c tl Γ lo) (hh : WO c th Γ hi) (hn : ¬ (HT.sIx ds.length 0 lo = 0 ∧ HT.sIx ds.length ds.length hi = ds.length)) : VE c (tSl (rSlT c.K) te tl th) Γ (.im (.tuple (cutD ds lo hi))) :=
  we_slT (we_v h ⟨hl, hh, ds, rfl, hn, rfl⟩)
theorem we_slL {tl th : TO} {lo hi : Option Int} (h : WE c te Γ fun r => WO c tl Γ lo ∧ WO c th Γ hi ∧ ∃ ds, (r = .ro ds ∨ r = .ls ds) ∧ Q (.ls (cutD ds lo hi))) : WE c (tSl (rSlL c.K) te tl th) Γ Q := fun H0 F σ H ev x Q' q => by
  refine h H0 F σ H ev x _ fun r v H1 ⟨hl, hh, ds, e, qq⟩ s1 r1 => ?_
  refine hl H0 F σ H1 (ev.step s1) x _ fun H2 s2 => ?_
  refine hh H0 F σ H2 ((ev.step s1).step s2) x _ fun H3 s3 => ?_
  have ev3 := ((ev.step s1).step s2).step s3
  have rd : ∃ a vs, v = .ref a ∧ SqL c.K H3 a vs ∧ Ims c.K H3 vs ds := by
    have r3 := ((r1.step s2 ev.pok (ev.pok.step s1)).step s3 ev.pok ((ev.step s1).step s2).pok)
    rcases e with e | e
    · subst e; exact res_ro.1 r3
    · subst e; obtain ⟨a, vs, e, _, g, m⟩ := res_ls.1 r3; exact ⟨a, vs, e, .inl (.inl g), m⟩
  obtain ⟨a, vs, rfl, hs, ms⟩ := rd
  refine ⟨_, _, rfl, hs, fun p hp => ?_⟩
  exact q _ _ _ qq (((s1.trans s2).trans s3).trans (Stp.new hp)) (res_ls.2 ⟨p, _, rfl, ((s1.trans s2).trans s3).back ev.pok hp, upd_same, (cut_ims ms lo hi).tupS ((Stp.new hp).tup ev3.pok)⟩)
theorem v_slL {tl th : TO} {lo hi : Option Int} {ds : List PyData} (h : VE c te Γ (.ro ds)) (hl : WO c tl Γ lo) (hh : WO c th Γ hi) : VE c (tSl (rSlL c.K) te tl th) Γ (.ls (cutD ds lo hi)) :=
  we_slL (we_v h ⟨hl, hh, ds, .inl rfl, rfl⟩)
theorem o_catT {ds es : List PyData} (h : ds ≠ []) (hz : ds.length + es.length ≤ 1000000) : Op2 c (rCatT c.K) (.im (.tuple ds)) (.im (.tuple es)) (.im (.tuple (ds ++ es))) := ⟨fun x y H H' hp s a b Q' q => by
  cases a.2 with
  | tup hs ms =>
    cases b.2 with
    | tup hs2 ms2 =>
      refine ⟨_, _, _, _, rfl, rfl, hs, hs2, ?_, ?_, fun e => ?_, fun _ p hp' => ?_⟩
      · intro e
        subst e
        have := ms.length
        cases ds with
        | nil => exact h rfl
        | cons d r => simp at this
      · rw [ms.length, ms2.length, sizeLine_eq]; omega
      · subst e
        have := ms2.length
        cases es with
        | nil => exact q _ _ (Stp.refl _ _) (res_im.2 (by rw [List.append_nil]; exact .tup hs ms))
        | cons d r => simp at this
      · exact q _ _ (Stp.new hp') (res_im.2 (.tup (SqT.of upd_same) ((ms.append ms2).tupS ((Stp.new hp').tup (hp.step s)))))⟩
/-- what can be read as a list of its own object -/
def lstR : Ent → Option (List PyData)
  | .ls ds => some ds
  | _ => none
theorem o_catL {ds es : List PyData} (hz : ds.length + es.length ≤ 1000000) : Op2 c rCat (.ls ds) (.ls es) (.ls (ds ++ es)) := ⟨fun x y H H' hp s a b Q' q => by
  obtain ⟨a1, vs, rfl, _, g, ms⟩ := res_ls.1 a
  obtain ⟨a2, ws, rfl, _, g2, ms2⟩ := res_ls.1 b
  refine ⟨_, _, _, _, rfl, rfl, g, g2, by rw [ms.length, ms2.length, sizeLine_eq]; omega, fun p hp' => ?_⟩
  exact q _ _ (Stp.new hp') (res_ls.2 ⟨p, _, rfl, hp', upd_same, (ms.append ms2).tupS ((Stp.new hp').tup (hp.step s))⟩)⟩
/-- x in (a, b): ints -/
theorem eqV_int {i j : Int} : eqV (.int i) (.int j) = decide (i = j) := by
  unfold eqV
  exact Bool.beq_eq_decide_eq i j
theorem inV_ints (i : Int) : ∀ ns : List Int, inV (.int i) (ns.map V.int) = decide (i ∈ ns)
  | [] => by simp [inV]
  | n :: r => by
    have ih := inV_ints i r
    unfold inV at ih ⊢
    rw [List.map_cons, List.any_cons, ih, eqV_int]
    by_cases h : n = i
    · simp [h]
    · have : ¬ i = n := fun z => h z.symm
      simp [h, this]
theorem flat_ints (ns : List Int) : (ns.map V.int).all flatV = true := by
  rw [List.all_map]; simp [flatV]
theorem o_inT {i : Int} {ns : List Int} : Op2 c (rIn c.K false) (I i) (.im (.tuple (ns.map PyData.int))) (B (decide (i ∈ ns))) := ⟨fun x y H H' hp s a b Q' q => by
  have a := Im.intv a.2
  subst a
  cases b.2 with
  | tup hs ms =>
    rw [ms.ints] at hs
    refine ⟨_, _, rfl, .inr hs, rfl, flat_ints ns, ?_⟩
    rw [inV_ints]
    exact q _ _ (Stp.refl _ _) (res_im.2 (.bl _))⟩
theorem o_ninT {i : Int} {ns : List Int} : Op2 c (rIn c.K true) (I i) (.im (.tuple (ns.map PyData.int))) (B (!decide (i ∈ ns))) := ⟨fun x y H H' hp s a b Q' q => by
  have a := Im.intv a.2
  subst a
  cases b.2 with
  | tup hs ms =>
    rw [ms.ints] at hs
    refine ⟨_, _, rfl, .inr hs, rfl, flat_ints ns, ?_⟩
    rw [inV_ints]
    exact q _ _ (Stp.refl _ _) (res_im.2 (.bl _))⟩
theorem rdL {ds : List PyData} {r : Ent} (hr : r = .ro ds ∨ r = .ls ds) {H H' : Hp} {v : V} (h : ResOk c.K c.p H H' r v) : ∃ a vs, v = .ref a ∧ SqL c.K H' a vs ∧ Ims c.K H' vs ds := by
  rcases hr with e | e
  · subst e; exact res_ro.1 h
  · subst e; obtain ⟨a, vs, e, _, g, m⟩ := res_ls.1 h; exact ⟨a, vs, e, .inl (.inl g), m⟩
theorem o_inL {i : Int} {ns : List Int} (hr : rb = .ro (ns.map PyData.int) ∨ rb = .ls (ns.map PyData.int)) : Op2 c (rIn c.K false) (I i) rb (B (decide (i ∈ ns))) := ⟨fun x y H H' hp s a b Q' q => by
  have a := Im.intv a.2
  subst a
  obtain ⟨ad, vs, rfl, hs, ms⟩ := rdL hr b
  rw [ms.ints] at hs
  refine ⟨_, _, rfl, .inl hs, rfl, flat_ints ns, ?_⟩
  rw [inV_ints]
  exact q _ _ (Stp.refl _ _) (res_im.2 (.bl _))⟩
theorem o_ninL {i : Int} {ns : List Int} (hr : rb = .ro (ns.map PyData.int) ∨ rb = .ls (ns.map PyData.int)) : Op2 c (rIn c.K true) (I i) rb (B (!decide (i ∈ ns))) := ⟨fun x y H H' hp s a b Q' q => by
  have a := Im.intv a.2
  subst a
  obtain ⟨ad, vs, rfl, hs, ms⟩ := rdL hr b
  rw [ms.ints] at hs
  refine ⟨_, _, rfl, .inl hs, rfl, flat_ints ns, ?_⟩
  rw [inV_ints]
  exact q _ _ (Stp.refl _ _) (res_im.2 (.bl _))⟩
theorem n_sum {ns : List Int} {r : Ent} (hr : r = .ro (ns.map PyData.int) ∨ r = .ls (ns.map PyData.int)) : OpN c (rSum c.K) [r] (I ns.sum) := ⟨fun xs H H' _ s a0 Q' q => by
  obtain ⟨v, rfl, a⟩ := all1 a0
  obtain ⟨ad, vs, rfl, hs, ms⟩ := rdL hr a
  rw [ms.ints] at hs
  exact ⟨_, _, rfl, hs, q _ H' (Stp.refl _ _) (res_im.2 (.int _))⟩⟩
theorem n_all {bs : List Bool} {r : Ent} (hr : r = .ro (bs.map PyData.bool) ∨ r = .ls (bs.map PyData.bool)) : OpN c (rAll c.K) [r] (B (bs.all id)) := ⟨fun xs H H' _ s a0 Q' q => by
  obtain ⟨v, rfl, a⟩ := all1 a0
  obtain ⟨ad, vs, rfl, hs, ms⟩ := rdL hr a
  rw [ms.bls] at hs
  exact ⟨_, _, rfl, hs, q _ H' (Stp.refl _ _) (res_im.2 (.bl _))⟩⟩
/-! ## calls of the program's own defs -/
/-- a contract: what is handed in, what must hold, what may come back, what may be raised -/
structure Con (α : Type) where
  args : α → List Ent
  pre : α → Prop
  post : α → Ent → Prop
  exc : α → Err → Prop := fun _ _ => False
def spC {α : Type} (K : PySem.W.Frag) (C : Con α) : Sp := fun vs H Q E => ∃ (p : Option Addr) (a : α), POk p H ∧ ResAll K p H H (C.args a) vs ∧ C.pre a ∧
  (∀ r v H', C.post a r → Stp p H H' → ResOk K p H H' r v → Q v H') ∧ ∀ e cls d H', C.exc a e → Stp p H H' → ErrOk K H' e cls d → E cls d H'
theorem ErrOk.step {K : PySem.W.Frag} {p : Option Addr} {H H' : Hp} {e : Err} {cls : Value} {d : Option Addr} (t : Stp p H H') (h : POk p H) (x : ErrOk K H e cls d) : ErrOk K H' e cls d := by
  obtain ⟨a, dd, fs, b, g, k, m⟩ := x
  exact ⟨a, dd, fs, b, t.keep _ _ (fun z => by
    obtain ⟨_, _, _, _, _, _, y, _⟩ := h dd z
    rw [g] at y; cases y) g, k, m.tupS (t.tup h)⟩
/-- arguments are handed over: an own list is read alone there -/
def toArg : Ent → Ent
  | .ls ds => .ro ds
  | .la _ _ _ => .no
  | .dk _ => .no
  | .dt _ => .no
  | .pn => .no
  | e => e
theorem ResAll.arg {K : PySem.W.Frag} {p : Option Addr} {H H1 : Hp} : ∀ {rs : List Ent} {vs : List V}, ResAll K p H H1 rs vs → ResAll K p H1 H1 (rs.map toArg) vs
  | [], _, x => x
  | r :: rs, _, ⟨v, ws, e, a, b, _⟩ => by
    refine ⟨v, ws, e, ?_, ResAll.arg b, fun ho => by cases r <;> cases ho⟩
    cases r with
    | ls ds => obtain ⟨x, vs, e, _, g, m⟩ := res_ls.1 a; exact res_ro.2 ⟨x, vs, e, .inl (.inl g), m⟩
    | no => exact ⟨(fun φ z => by cases z), trivial⟩
    | la _ _ _ => exact ⟨(fun φ z => by cases z), trivial⟩
    | dk _ => exact ⟨(fun φ z => by cases z), trivial⟩
    | dt _ => exact ⟨(fun φ z => by cases z), trivial⟩
    | pn => exact ⟨(fun φ z => by cases z), trivial⟩
    | im d => exact res_im.2 a.2
    | ro d => exact res_ro.2 a.2
    | pen => exact res_pen.2 a.2
    | raw d => exact res_raw.2 a.2
    | ex a' d fs => exact ⟨(fun φ z => by cases z), a.2⟩
theorem we_call {α : Type} {C : Con α} {E : XK} (h : WA c tA Γ fun rs => ∃ a : α, rs.map toArg = C.args a ∧ C.pre a ∧ (∀ r, C.post a r → Q r) ∧ ∀ e, C.exc a e → E = c.E ∧ c.X e) : WE c (tCall (spC c.K C) [] E tA) Γ Q := fun H0 F σ H ev x Q' q => by
  refine h H0 F σ H ev x _ fun rs vs H1 ⟨a, ea, pa, qa, xa⟩ s1 r1 => ?_
  have pk1 := ev.pok.step s1
  refine ⟨c.p, a, pk1, ?_, pa, fun r v H2 pr s2 r2 => ?_, fun e cls d H2 he s2 eo => ?_⟩
  · rw [List.append_nil, ← ea]; exact r1.arg
  · exact q r v H2 (qa r pr) (s1.trans s2) (r2.back s1 ev.pok)
  · obtain ⟨z, w⟩ := xa e he
    rw [z]
    exact x e cls d H2 w (ev.stp.trans (s1.trans s2)) eo
/-- a call that hands back the one value and raises nothing -/
theorem v_call {α : Type} {C : Con α} {E : XK} {rs : List Ent} (a : α) (h : VA c tA Γ rs) (ea : rs.map toArg = C.args a) (pa : C.pre a) (qa : ∀ r, C.post a r → r = z) (xa : ∀ e, ¬ C.exc a e) : VE c (tCall (spC c.K C) [] E tA) Γ z :=
  we_call (wa_v h ⟨a, ea, pa, qa, fun e he => absurd he (xa e)⟩)
/-- the same with a value that is not told -/
theorem w_call {α : Type} {C : Con α} {E : XK} {rs : List Ent} (a : α) (h : VA c tA Γ rs) (ea : rs.map toArg = C.args a) (pa : C.pre a) (qa : ∀ r, C.post a r → Q r) (xa : ∀ e, ¬ C.exc a e) : WE c (tCall (spC c.K C) [] E tA) Γ Q :=
  we_call (wa_v h ⟨a, ea, pa, qa, fun e he => absurd he (xa e)⟩)
end
/-! ## statements -/
section
variable {c : Cd} {te ta tb : TE} {tA : TA} {tt : TT} {Γ : List Ent} {P : Ps} {t u tu tw : TS}
/-- what holds behind a weakening -/
def Up (N : List Ent → Prop) : List Ent → Prop := fun Γ => ∃ Γ', Wk Γ Γ' ∧ N Γ'
theorem up_of {N : List Ent → Prop} (h : N Γ) : Up N Γ := ⟨Γ, Wk.refl Γ, h⟩
theorem PsOk.seq {H0 F : Hp} {D : Ends} (h : PsOk c H0 F P D) (hu : ∀ Γ σ H, Ev c.K c.p H0 F Γ σ H → WS c u Γ P → c.XOk H0 → u D σ H) (x : c.XOk H0) : PsOk c H0 F { P with nx := fun Γ => WS c u Γ P } { D with nx := u D } :=
  ⟨fun Γ σ H w e => hu Γ σ H e w x, h.rt, h.bk, h.ct⟩
theorem ws_seq (h : WS c t Γ { P with nx := fun Γ => WS c u Γ P }) : WS c (tSeq t u) Γ P := fun H0 F σ H ev x D d =>
  h H0 F σ H ev x _ (d.seq (fun Γ σ H e w x => w H0 F σ H e x D d) x)
theorem ws_mid (M : List Ent → Prop) (h1 : WS c t Γ { P with nx := M }) (h2 : ∀ Γ', M Γ' → WS c u Γ' P) : WS c (tSeq t u) Γ P :=
  ws_seq fun H0 F σ H ev x D dd => h1 H0 F σ H ev x D ⟨fun Γ σ H n e => dd.nx Γ σ H (h2 Γ n) e, dd.rt, dd.bk, dd.ct⟩
theorem ws_up (h : ∃ Γ', Wk Γ Γ' ∧ WS c t Γ' P) : WS c t Γ P := fun H0 F σ H ev x D d => by
  obtain ⟨Γ', w, k⟩ := h
  exact k H0 F σ H (ev.weak w) x D d
theorem ws_next (h : P.nx Γ) : WS c tNext Γ P := fun H0 F σ H ev x D d => d.nx Γ σ H h ev
theorem ws_brk (h : P.bk Γ) : WS c tBreak Γ P := fun H0 F σ H ev x D d => d.bk Γ σ H h ev
theorem ws_cont (h : P.ct Γ) : WS c tCont Γ P := fun H0 F σ H ev x D d => d.ct Γ σ H h ev
theorem ws_asg {i : Nat} (h : WE c te Γ fun r => P.nx (Γ.set i r.toE)) (hi : i < Γ.length := by first | decide | exact Nat.le_of_ble_eq_true rfl) : WS c (tAsg te (gName i)) Γ P := fun H0 F σ H ev x D d =>
  h H0 F σ H ev x _ fun r v H1 n s1 r1 => d.nx _ _ _ n (ev.set s1 hi r1)
theorem ws_ret (h : WE c te Γ P.rt) : WS c (tRet te) Γ P := fun H0 F σ H ev x D d =>
  h H0 F σ H ev x _ fun r v H1 n s1 r1 => d.rt r v H1 n (ev.stp.trans s1) (r1.back ev.stp ev.pok0)
/-- an own list (dict) is handed back -/
theorem ws_retV {i : Nat} {e : Ent} (h : P.rt e) (hg : Γ[i]? = some e) (ho : (e.obj c.K).isSome = true := by rfl) (np : e ≠ .pn := by intro z; cases z)  : WS c (tRet (tVar i)) Γ P := fun H0 F σ H ev x D d => by
  obtain ⟨s, hs, k1, k⟩ := ev.ent i e hg
  obtain ⟨φ, hφ⟩ := Option.isSome_iff_exists.mp ho
  obtain ⟨a, o, e1, ad, n, f, g, m⟩ := k1 φ hφ
  subst e1
  refine ⟨_, hs, d.rt e _ H h ev.stp ⟨fun ψ z => ?_, ?_⟩⟩
  · rw [hφ] at z; cases z; exact ⟨a, o, rfl, ad, n, g, m⟩
  · cases e with
    | pn => exact absurd rfl np
    | ls _ => trivial
    | la a vs ds => trivial
    | dk _ => trivial
    | dt _ => trivial
    | no => cases ho
    | im _ => cases ho
    | ro _ => cases ho
    | pen => cases ho
    | raw _ => cases ho
    | ex _ _ _ => cases ho
theorem ws_retN (h : P.rt (.im .none)) : WS c tRetN Γ P := fun H0 F σ H ev x D d => d.rt _ _ H h ev.stp (res_im.2 .non)
theorem ws_drop (h : WE c te Γ fun _ => P.nx Γ) : WS c (tDrop te) Γ P := fun H0 F σ H ev x D d =>
  h H0 F σ H ev x _ fun r v H1 n s1 r1 => d.nx _ _ _ n (ev.step s1)
theorem ws_if {b : TT} (h : WT c b Γ fun k => (k = true → WS c tu Γ P) ∧ (k = false → WS c tw Γ P)) : WS c (tIfS b tu tw) Γ P := fun H0 F σ H ev x D d => by
  refine h H0 F σ H ev x _ fun k H1 ⟨h1, h2⟩ s1 => ?_
  cases k with
  | true => exact h1 rfl H0 F σ H1 (ev.step s1) x D d
  | false => exact h2 rfl H0 F σ H1 (ev.step s1) x D d
theorem s_if {b : TT} {k : Bool} (h : VT c b Γ k) (h1 : k = true → WS c tu Γ P) (h2 : k = false → WS c tw Γ P) : WS c (tIfS b tu tw) Γ P := ws_if (wt_v h ⟨h1, h2⟩)
/-- a, b = x, y -/
theorem Ev.set2 {K : PySem.W.Frag} {p : Option Addr} {H0 F H H1 : Hp} {σ : L2.St} (x : Ev K p H0 F Γ σ H) (t : Stp p H H1) {i j : Nat} {r s : Ent} {v w : V} (hi : i < Γ.length) (hj : j < Γ.length) (a : ResOk K p H H1 r v) (b : ResOk K p H H1 s w)
    (ne : (r.obj K).isSome = true → (s.obj K).isSome = true → w = v → False) : Ev K p H0 F ((Γ.set i r.toE).set j s.toE) ((σ.set i (some v)).set j (some w)) H1 := by
  have hs : i < σ.length := by
    obtain ⟨s, e, _⟩ := x.ent i _ (List.getElem?_eq_getElem hi)
    exact (List.getElem?_eq_some_iff.mp e).1
  refine (x.set t hi a).setG (by rw [List.length_set]; exact hj) (b.toE x) fun ho k d nk gk hd sk => ?_
  obtain ⟨φ, hφ⟩ := Option.isSome_iff_exists.mp ho
  by_cases hk : i = k
  · subst hk
    rw [List.getElem?_set_self hi] at gk
    rw [List.getElem?_set_self hs] at sk
    have gk := Option.some.inj gk
    subst gk
    obtain ⟨ψ, hψ⟩ := Option.isSome_iff_exists.mp hd
    exact ne (by rw [(toE_obj hψ).1]; rfl) (by rw [(toE_obj hφ).1]; rfl) (Option.some.inj (Option.some.inj sk)).symm
  · rw [List.getElem?_set_ne hk] at gk sk
    obtain ⟨y, o, e1, _, n, _⟩ := b.1 φ (toE_obj hφ).1
    obtain ⟨ψ, hψ⟩ := Option.isSome_iff_exists.mp hd
    obtain ⟨s', e2, k1, _⟩ := x.ent k d gk
    obtain ⟨y', o', e3, _, _, _, g', _⟩ := k1 ψ hψ
    rw [sk] at e2
    have e2 := Option.some.inj e2
    subst e1
    rw [e3] at e2; cases e2
    rw [n] at g'; cases g'
theorem ws_par {i j : Nat} (h : WA c tA Γ fun rs => ∃ r s, rs = [r, s] ∧ P.nx ((Γ.set i r.toE).set j s.toE)) (hi : i < Γ.length := by first | decide | exact Nat.le_of_ble_eq_true rfl) (hj : j < Γ.length := by first | decide | exact Nat.le_of_ble_eq_true rfl) : WS c (tPar i j tA) Γ P := fun H0 F σ H ev x D d => by
  refine h H0 F σ H ev x _ fun rs vs H1 ⟨r, s, e, n⟩ s1 r1 => ?_
  subst e
  obtain ⟨v, ws, rfl, a, b, k⟩ := r1
  obtain ⟨w, rfl, b'⟩ := all1 b
  exact ⟨v, w, rfl, d.nx _ _ _ n (ev.set2 s1 hi hj a b' fun h1 h2 e => k h1 0 s rfl h2 (by rw [e]; rfl))⟩
theorem s_par {i j : Nat} {r s : Ent} (h : VA c tA Γ [r, s]) (n : P.nx ((Γ.set i r.toE).set j s.toE)) (hi : i < Γ.length := by first | decide | exact Nat.le_of_ble_eq_true rfl) (hj : j < Γ.length := by first | decide | exact Nat.le_of_ble_eq_true rfl) : WS c (tPar i j tA) Γ P := ws_par (wa_v h ⟨r, s, rfl, n⟩) hi hj
/-- a, b, .. = a tuple -/
def WG (c : Cd) (ds : List PyData) (t : TGs) (Γ : List Ent) (N : List Ent → Prop) : Prop :=
  ∀ H0 F σ H vs, Ev c.K c.p H0 F Γ σ H → Ims c.K H vs ds → ∀ Q : L2.St → Hp → Prop, (∀ Γ' σ', N Γ' → Ev c.K c.p H0 F Γ' σ' H → Q σ' H) → t vs σ H Q
theorem wg_nil {N : List Ent → Prop} (n : N Γ) : WG c [] gNil Γ N := fun H0 F σ H vs ev m Q q => by
  cases m
  exact ⟨rfl, q Γ σ n ev⟩
theorem wg_name {i : Nat} {d : PyData} {ds : List PyData} {t : TGs} {N : List Ent → Prop} (h : WG c ds t (Γ.set i (.im d)) N) (hi : i < Γ.length := by first | decide | exact Nat.le_of_ble_eq_true rfl) : WG c (d :: ds) (gCons (gName i) t) Γ N := fun H0 F σ H vs ev m Q q => by
  cases m with
  | cons a b => exact ⟨_, _, rfl, h H0 F _ H _ (ev.set (Stp.refl _ _) (r := .im d) hi (res_im.2 a)) b Q q⟩
/-- a target in a target -/
theorem wg_tup {n : Nat} {d : List PyData} {ds : List PyData} {t u : TGs} {N : List Ent → Prop} (hn : d.length = n) (h : WG c d u Γ fun Γ' => WG c ds t Γ' N) : WG c (.tuple d :: ds) (gCons (gTup c.K n u) t) Γ N := fun H0 F σ H vs ev m Q q => by
  cases m with
  | cons a b =>
    cases a with
    | tup hs ms => exact ⟨_, _, rfl, _, _, rfl, hs, by rw [ms.length]; exact hn, h H0 F σ H _ ev ms _ fun Γ' σ' k e => k H0 F σ' H _ e b Q q⟩
theorem ws_asgT {n : Nat} {t : TGs} (h : WE c te Γ fun r => ∃ ds, r = .im (.tuple ds) ∧ ds.length = n ∧ WG c ds t Γ P.nx) : WS c (tAsg te (gTup c.K n t)) Γ P := fun H0 F σ H ev x D d => by
  refine h H0 F σ H ev x _ fun r v H1 ⟨ds, e, hl, w⟩ s1 r1 => ?_
  subst e
  cases r1.2 with
  | tup hs ms => exact ⟨_, _, rfl, hs, by rw [ms.length]; exact hl, w H0 F σ H1 _ (ev.step s1) ms _ fun Γ' σ' n e => d.nx Γ' σ' H1 n e⟩
theorem ws_asgG {n : Nat} {t : TGs} (h : WE c te Γ fun r => ∃ ds, (r = .ro ds ∨ r = .ls ds) ∧ ds.length = n ∧ WG c ds t Γ P.nx) : WS c (tAsg te (gLst c.K n t)) Γ P := fun H0 F σ H ev x D d => by
  refine h H0 F σ H ev x _ fun r v H1 ⟨ds, e, hl, w⟩ s1 r1 => ?_
  obtain ⟨a, vs, rfl, hs, ms⟩ := rdL e r1
  exact ⟨_, _, rfl, hs, by rw [ms.length]; exact hl, w H0 F σ H1 _ (ev.step s1) ms _ fun Γ' σ' n e => d.nx Γ' σ' H1 n e⟩
/-- name op= e -/
theorem ws_aug {i : Nat} {ti : TIp} {d : PyData} (hg : Γ[i]? = some (.im d)) (h : WE c te Γ fun r => ∃ z, Op2 c ti (.im d) r (.im z) ∧ P.nx (Γ.set i (.im z))) : WS c (tAug i te ti) Γ P := fun H0 F σ H ev x D dd => by
  obtain ⟨s, hs, _, v, rfl, m⟩ := ev.ent i _ hg
  have hi : i < Γ.length := (List.getElem?_eq_some_iff.mp hg).1
  refine ⟨v, hs, h H0 F σ H ev x _ fun r w H1 ⟨z, o, n⟩ s1 r1 => ?_⟩
  refine o.run v w H H1 ev.pok s1 (res_im.2 (m.tupS (s1.tup ev.pok))) r1 _ fun u H2 s2 r2 => ?_
  exact dd.nx _ _ _ n (ev.set (s1.trans s2) (r := .im z) hi (res_im.2 r2.2))
/-! ### own lists change -/
/-- the object of an own entry is changed -/
theorem Ev.mutate {K : PySem.W.Frag} {p : Option Addr} {H0 F H : Hp} {σ : L2.St} (x : Ev K p H0 F Γ σ H) {i : Nat} {e e' : Ent} {a : Addr} {o o' : HO} {φ φ' : Hp → HO → Prop} (hg : Γ[i]? = some e) (hs : σ[i]? = some (some (V.ref a))) (hφ : e.obj K = some φ) (ha : e.adr a) (g : H a = some o) (nt : (∀ xs, o ≠ .tup xs) ∧ ∀ ob u, o ≠ .frz ob u)
    (hφ' : e'.obj K = some φ') (ha' : e'.adr a) (hn : e' ≠ .pn) (new : φ' (upd H a o') o') : Ev K p H0 F (Γ.set i e') σ (upd H a o') := by
  have hi : i < Γ.length := (List.getElem?_eq_some_iff.mp hg).1
  obtain ⟨s, e1, k1, _⟩ := x.ent i e hg
  obtain ⟨b, ob, e2, _, n, f, g', _⟩ := k1 φ hφ
  rw [hs] at e1
  have e1 := Option.some.inj e1
  rw [← e1] at e2
  cases e2
  have pa : p ≠ some a := x.pok0.ne0 n
  have tp : Tup H (upd H a o') := by
    constructor
    · intro b xs h
      rw [upd_ne]; exact h
      intro z; rw [z, g] at h; exact nt.1 xs (Option.some.inj h)
    · intro b ob u h
      rw [upd_ne]; exact h
      intro z; rw [z, g] at h; exact nt.2 ob u (Option.some.inj h)
  have st0 : Stp p H0 (upd H a o') := by
    refine ⟨fun b u np h => ?_, fun q l hq hk => ?_⟩
    · rw [upd_ne (ne_of_none h n)]
      exact x.stp.keep b u np h
    · obtain ⟨ns, y1, y2, y3, y4, z1, z2, r⟩ := x.stp.pen q l hq hk
      obtain ⟨ns0, w1, w2, w3, w4, v1, v2, _⟩ := hk
      exact ⟨ns, y1, y2, y3, y4, by rw [upd_ne (fun z => pa (by rw [← z]; exact hq))]; exact z1, by rw [upd_ne (ne_of_none v2 n)]; exact z2, r⟩
  refine ⟨fun j d gj => ?_, fun j k b d e'' njk gj gk hd he sj sk => ?_, st0, x.pok0, fun b u h => ?_, x.frp⟩
  · by_cases hj : i = j
    · subst hj
      rw [List.getElem?_set_self hi] at gj
      have gj := Option.some.inj gj
      subst gj
      refine ⟨_, hs, fun ψ z => ?_, ?_⟩
      · rw [hφ'] at z; cases z; exact ⟨a, o', rfl, ha', n, f, upd_same, new⟩
      · cases e' with
        | pn => exact absurd rfl hn
        | ls _ => trivial
        | la _ _ _ => trivial
        | dk _ => trivial
        | dt _ => trivial
        | no => cases hφ'
        | im _ => cases hφ'
        | ro _ => cases hφ'
        | pen => cases hφ'
        | raw _ => cases hφ'
        | ex _ _ _ => cases hφ'
    · rw [List.getElem?_set_ne hj] at gj
      obtain ⟨s2, e2, k2, k3⟩ := x.ent j d gj
      refine ⟨s2, e2, fun ψ z => ?_, ?_⟩
      · obtain ⟨b, ob2, f1, f2, f3, f4, f5, f6⟩ := k2 ψ z
        have nb : b ≠ a := fun q => x.sep i j a e d hj hg gj (by rw [hφ]; rfl) (by rw [z]; rfl) hs (by rw [e2, f1, q])
        exact ⟨b, ob2, f1, f2, f3, f4, by rw [upd_ne nb]; exact f5, obj_tup z tp f6⟩
      · cases d with
        | im d' => obtain ⟨v, h1, h2⟩ := k3; exact ⟨v, h1, h2.tupS tp⟩
        | ro ds =>
          obtain ⟨b, vs, h1, h2, h3, h4⟩ := k3
          refine ⟨b, vs, h1, h2, ?_, h4.tupS tp⟩
          exact sqL_step st0 x.pok0 h2
        | pen => exact k3
        | pn => exact k3
        | raw _ => exact k3
        | ex _ _ _ => exact k3
        | no => trivial
        | ls _ => trivial
        | la _ _ _ => trivial
        | dk _ => trivial
        | dt _ => trivial
  · have own : ∀ (j : Nat) (d : Ent), (Γ.set i e')[j]? = some d → (d.obj K).isSome = true → ∃ d', Γ[j]? = some d' ∧ (d'.obj K).isSome = true := fun j d gj hd => by
      by_cases hj : i = j
      · subst hj; exact ⟨e, hg, by rw [hφ]; rfl⟩
      · rw [List.getElem?_set_ne hj] at gj; exact ⟨d, gj, hd⟩
    obtain ⟨d1, g1, h1⟩ := own j d gj hd
    obtain ⟨d2, g2, h2⟩ := own k e'' gk he
    exact x.sep j k b d1 d2 njk g1 g2 h1 h2 sj sk
  · rw [upd_ne]
    · exact x.frm b u h
    · intro z
      rw [z, f] at h; cases h
/-- found.append(e) -/
theorem ws_app {i : Nat} {ds : List PyData} (hg : Γ[i]? = some (.ls ds)) (hz : ds.length < 1000000) (h : WE c te Γ fun r => ∃ d, r = .im d ∧ P.nx (Γ.set i (.ls (ds ++ [d])))) : WS c (tDrop (tBM c.K "list" rAppend (tVar i) (tCons te tNil))) Γ P := fun H0 F σ H ev x D dd => by
  obtain ⟨s, hs, k1, _⟩ := ev.ent i _ hg
  obtain ⟨a, o, e, _, n, f, g, vs, rfl, m⟩ := k1 _ rfl
  subst e
  refine ⟨_, hs, .inl ⟨rfl, _, .inl (.inl g)⟩, ?_⟩
  refine h H0 F σ H ev x _ fun r v H1 ⟨d, er, nx⟩ s1 r1 => ?_
  subst er
  have ev1 := ev.step s1
  have g1 : H1 a = some (.lst vs) := s1.keep a _ (ev.pok0.ne0 n) g
  have m1 := m.tupS (s1.tup ev.pok)
  have tp : Tup H1 (upd H1 a (.lst (vs ++ [v]))) := by
    constructor
    · intro b xs h; rw [upd_ne]; exact h
      intro z; rw [z, g1] at h; cases h
    · intro b ob u h; rw [upd_ne]; exact h
      intro z; rw [z, g1] at h; cases h
  refine ⟨a, vs, v, rfl, rfl, g1, by rw [m.length, sizeLine_eq]; omega, dd.nx _ _ _ nx ?_⟩
  exact ev1.mutate (e := .ls ds) (e' := .ls (ds ++ [d])) hg hs rfl trivial g1 ⟨(fun _ z => by cases z), (fun _ _ z => by cases z)⟩ rfl trivial (by intro z; cases z) ⟨_, rfl, (m1.tupS tp).append (.cons (Im.tupS tp r1.2) .nil)⟩
theorem s_app {i : Nat} {ds : List PyData} {d : PyData} (h : VE c te Γ (.im d)) (n : P.nx (Γ.set i (.ls (ds ++ [d])))) (hz : ds.length < 1000000) (hg : Γ[i]? = some (.ls ds) := by rfl) : WS c (tDrop (tBM c.K "list" rAppend (tVar i) (tCons te tNil))) Γ P := ws_app hg hz (we_v h ⟨d, rfl, n⟩)
/-- left.pop(k) as an expression of its own statement's right side is told apart; xs[j] = e -/
theorem ws_setL {i : Nat} {ds : List PyData} (hg : Γ[i]? = some (.ls ds)) (h : WE c te Γ fun r => ∃ d, r = .im d ∧ ∃ (k : Int) (j : Nat), VE c tb Γ (I k) ∧ ixN ds.length k = some j ∧ P.nx (Γ.set i (.ls (ds.set j d)))) : WS c (tAsg te (gSub (tVar i) tb rSetL)) Γ P := fun H0 F σ H ev x D dd => by
  obtain ⟨s, hs, k1, _⟩ := ev.ent i _ hg
  obtain ⟨a, o, e, _, n, f, g, vs, rfl, m⟩ := k1 _ rfl
  subst e
  refine h H0 F σ H ev x _ fun r v H1 ⟨d, er, k, j, hb, hj, nx⟩ s1 r1 => ?_
  subst er
  refine ⟨_, hs, hb H0 F σ H1 (ev.step s1) x _ fun r2 v2 H2 e2 s2 q2 => ?_⟩
  subst e2
  have e2 := Im.intv q2.2
  subst e2
  have ev2 := (ev.step s1).step s2
  have g2 : H2 a = some (.lst vs) := s2.keep a _ (ev.pok0.ne0 n) (s1.keep a _ (ev.pok0.ne0 n) g)
  have m2 := (m.tupS (s1.tup ev.pok)).tupS (s2.tup (ev.step s1).pok)
  have tp : Tup H2 (upd H2 a (.lst (vs.set j v))) := by
    constructor
    · intro b xs h; rw [upd_ne]; exact h
      intro z; rw [z, g2] at h; cases h
    · intro b ob u h; rw [upd_ne]; exact h
      intro z; rw [z, g2] at h; cases h
  refine ⟨a, vs, k, j, rfl, rfl, g2, by rw [m.length]; exact hj, dd.nx _ _ _ nx ?_⟩
  exact ev2.mutate (e := .ls ds) (e' := .ls (ds.set j d)) hg hs rfl trivial g2 ⟨(fun _ z => by cases z), (fun _ _ z => by cases z)⟩ rfl trivial (by intro z; cases z) ⟨_, rfl, (m2.tupS tp).set (Im.tupS tp ((r1.step s2 ev.pok (ev.step s1).pok).2)) j⟩
/-! ### loops -/
/-- the i-th turn of J gives the i-th of ds -/
def Gives (c : Cd) (H0 F : Hp) (J : It) (ds : List PyData) : Prop := ∃ (G : Hp → Prop) (Y : Nat → Hp → V → Hp → Prop), Walk J ds.length G Y ∧ (∀ H', (∀ a o, F a = some o → H' a = some o) → Stp c.p H0 H' → G H') ∧
  ∀ i x H' H'', i < ds.length → (∀ a o, F a = some o → H' a = some o) → Stp c.p H0 H' → Y i H' x H'' → Stp c.p H' H'' ∧ ∃ d, ds[i]? = some d ∧ Im c.K H'' x d
def WI (c : Cd) (wi : TI) (Γ : List Ent) (Q : List PyData → Prop) : Prop :=
  ∀ H0 F σ H, Ev c.K c.p H0 F Γ σ H → c.XOk H0 → ∀ R : It → Hp → Prop, (∀ J H1 ds l, Q ds → Stp c.p H H1 → (∀ b, l = some b → H b = none ∧ ∃ vs, H1 b = some (.lst vs)) → Gives c H0 (Fr2 F H1 l) J ds → R J H1) → wi σ H R
abbrev VI (c : Cd) (wi : TI) (Γ : List Ent) (ds : List PyData) : Prop := WI c wi Γ (fun z => z = ds)
theorem fr2_tup {F H : Hp} {l : Option Addr} {a : Addr} {xs : List V} (h : H a = some (.tup xs)) : Fr2 F H l a = some (.tup xs) := by
  unfold Fr2; rw [h]
theorem fr2_frz {F H : Hp} {l : Option Addr} {a : Addr} {o : Obj} {u : HO} (h : H a = some (.frz o u)) : Fr2 F H l a = some (.frz o u) := by
  unfold Fr2; rw [h]
theorem fr2_lst {F H : Hp} {a : Addr} {xs : List V} (h : H a = some (.lst xs)) : Fr2 F H (some a) a = some (.lst xs) := by
  unfold Fr2; rw [h]; simp
theorem tup_of {F H H' : Hp} {l : Option Addr} (k : ∀ a o, Fr2 F H l a = some o → H' a = some o) : Tup H H' := ⟨fun a xs h => k _ _ (fr2_tup h), fun a o u h => k _ _ (fr2_frz h)⟩
/-- a list's walk -/
theorem gives_list {H0 F H1 : Hp} {l : Option Addr} {a : Addr} {vs : List V} {ds : List PyData} (hs : ∀ H', (∀ a o, Fr2 F H1 l a = some o → H' a = some o) → Stp c.p H0 H' → SqL c.K H' a vs) (m : Ims c.K H1 vs ds) : Gives c H0 (Fr2 F H1 l) (Itl c.K a) ds := by
  refine ⟨fun H => SqL c.K H a vs, YAt vs, ?_, hs, fun i x H' H'' hi k s y => ?_⟩
  · rw [← m.length]; exact walk_list
  · obtain ⟨e, y⟩ := y
    subst e
    obtain ⟨d, hd, md⟩ := m.getV y
    exact ⟨Stp.refl _ _, d, hd, md.tupS (tup_of k)⟩
theorem i_list {tl : TE} {ds : List PyData} (h : WE c tl Γ fun r => r = .ls ds) : VI c (iList c.K tl) Γ ds := fun H0 F σ H ev x R q => by
  refine h H0 F σ H ev x _ fun r v H1 e s1 r1 => ?_
  subst e
  obtain ⟨a, vs, rfl, n, g, m⟩ := res_ls.1 r1
  refine ⟨a, rfl, ⟨_, .inl (.inl g)⟩, q _ H1 ds (some a) rfl s1 (fun b hb => ?_) (gives_list (fun H' k s => .inl (.inl (k _ _ (fr2_lst g)))) m)⟩
  cases hb
  exact ⟨n, _, g⟩
theorem i_listW {tl : TE} {Qd : List PyData → Prop} (h : WE c tl Γ fun r => ∃ ds, r = .ls ds ∧ Qd ds) : WI c (iList c.K tl) Γ Qd := fun H0 F σ H ev x R q => by
  refine h H0 F σ H ev x _ fun r v H1 ⟨ds, e, qd⟩ s1 r1 => ?_
  subst e
  obtain ⟨a, vs, rfl, n, g, m⟩ := res_ls.1 r1
  refine ⟨a, rfl, ⟨_, .inl (.inl g)⟩, q _ H1 ds (some a) qd s1 (fun b hb => ?_) (gives_list (fun H' k s => .inl (.inl (k _ _ (fr2_lst g)))) m)⟩
  cases hb
  exact ⟨n, _, g⟩
theorem i_ro {i : Nat} {ds : List PyData} (hg : Γ[i]? = some (.ro ds) := by rfl) : VI c (iList c.K (tVar i)) Γ ds := fun H0 F σ H ev x R q => by
  obtain ⟨s, hs, _, a, vs, rfl, h0, h1, m⟩ := ev.ent i _ hg
  exact ⟨_, hs, a, rfl, ⟨_, h1⟩, q _ H ds none rfl (Stp.refl _ _) (fun b hb => by cases hb) (gives_list (fun H' k s => sqL_step s ev.pok0 h0) m)⟩
theorem i_tup {tl : TE} {ds : List PyData} (h : VE c tl Γ (.im (.tuple ds))) : VI c (iTup c.K tl) Γ ds := fun H0 F σ H ev x R q => by
  refine h H0 F σ H ev x _ fun r v H1 e s1 r1 => ?_
  subst e
  cases r1.2 with
  | @tup a xs _ hs m =>
    refine ⟨_, rfl, ⟨_, hs⟩, q _ H1 ds none rfl s1 (fun b hb => by cases hb) ⟨fun H => SqT c.K H a xs, YAt xs, ?_, fun H' k s => sqT_tup (tup_of k) hs, fun i x H' H'' hi k s y => ?_⟩⟩
    · rw [← m.length]; exact walk_tup
    · obtain ⟨e, y⟩ := y
      subst e
      obtain ⟨d, hd, md⟩ := m.getV y
      exact ⟨Stp.refl _ _, d, hd, md.tupS (tup_of k)⟩
/-- lo, lo + 1, .. -/
def rangeD (lo : Int) (n : Nat) : List PyData := (List.range n).map fun (i : Nat) => PyData.int (lo + (i : Int))
theorem gives_range {H0 F : Hp} {lo : Int} {n : Nat} : Gives c H0 F (Itr lo n) (rangeD lo n) := by
  have hl : (rangeD lo n).length = n := by unfold rangeD; simp
  refine ⟨fun _ => True, YFn fun i => .int (lo + i), by rw [hl]; exact walk_range, fun _ _ _ => trivial, fun i x H' H'' hi k s y => ?_⟩
  obtain ⟨e, y⟩ := y
  subst e y
  refine ⟨Stp.refl _ _, .int (lo + i), ?_, .int _⟩
  unfold rangeD
  rw [hl] at hi
  rw [List.getElem?_map, List.getElem?_range hi]; rfl
theorem i_r1 {ta : TA} {n : Int} (h : VA c ta Γ [I n]) (h1 : -(2 ^ 62) ≤ n) (h2 : n < 2 ^ 62) : VI c (iRng1 ta) Γ (rangeD 0 n.toNat) := fun H0 F σ H ev x R q => by
  refine h H0 F σ H ev x _ fun rs vs H1 e s1 r1 => ?_
  subst e
  obtain ⟨v, rfl, a⟩ := all1 r1
  have a := Im.intv a.2
  subst a
  exact ⟨n, rfl, h1, h2, q _ H1 _ none rfl s1 (fun b hb => by cases hb) gives_range⟩
theorem i_r2 {ta : TA} {m n : Int} (h : VA c ta Γ [I m, I n]) (hb : -(2 ^ 62) ≤ m ∧ m < 2 ^ 62 ∧ -(2 ^ 62) ≤ n ∧ n < 2 ^ 62) : VI c (iRng2 ta) Γ (rangeD m (n - m).toNat) := fun H0 F σ H ev x R q => by
  refine h H0 F σ H ev x _ fun rs vs H1 e s1 r1 => ?_
  subst e
  obtain ⟨v, w, rfl, a, b⟩ := all2 r1
  have a := Im.intv a.2
  have b := Im.intv b.2
  subst a b
  exact ⟨m, n, rfl, hb, q _ H1 _ none rfl s1 (fun b hb => by cases hb) gives_range⟩
/-- the target of a loop -/
def WT1 (c : Cd) (g : TG) (d : PyData) (Γ : List Ent) (N : List Ent → Prop) : Prop :=
  ∀ H0 F σ H v, Ev c.K c.p H0 F Γ σ H → Im c.K H v d → ∀ Q : L2.St → Hp → Prop, (∀ Γ' σ', N Γ' → Ev c.K c.p H0 F Γ' σ' H → Q σ' H) → g v σ H Q
theorem g_name {i : Nat} {d : PyData} {N : List Ent → Prop} (h : N (Γ.set i (.im d))) (hi : i < Γ.length := by first | decide | exact Nat.le_of_ble_eq_true rfl) : WT1 c (gName i) d Γ N := fun H0 F σ H v ev m Q q =>
  q _ _ h (ev.set (Stp.refl _ _) (r := .im d) hi (res_im.2 m))
theorem g_tup {n : Nat} {ds : List PyData} {t : TGs} {N : List Ent → Prop} (hn : ds.length = n) (h : WG c ds t Γ N) : WT1 c (gTup c.K n t) (.tuple ds) Γ N := fun H0 F σ H v ev m Q q => by
  cases m with
  | tup hs ms => exact ⟨_, _, rfl, hs, by rw [ms.length]; exact hn, h H0 F σ H _ ev ms Q q⟩
/-- for over anything that gives data, which is not told -/
theorem ws_forW {wi : TI} {g : TG} {Qd : List PyData → Prop} (hw : WI c wi Γ Qd) (k : ∀ ds, Qd ds → ∃ Inv : Nat → List Ent → Prop, Up (Inv 0) Γ ∧
    (∀ i d Γ', ds[i]? = some d → Inv i Γ' → WT1 c g d Γ' fun Γ2 => WS c t Γ2 { nx := Up (Inv (i + 1)), rt := P.rt, bk := P.nx, ct := Up (Inv (i + 1)) }) ∧ (∀ Γ', Inv ds.length Γ' → P.nx Γ')) : WS c (tFor wi g t) Γ P := fun H0 F σ H ev x D dd => by
  refine hw H0 F σ H ev x _ fun J H1 ds' l e s1 hl ⟨G, Y, w, hG, hY⟩ => ?_
  obtain ⟨Inv, h0, hs, hd⟩ := k ds' e
  have ev1 := ev.step s1
  obtain ⟨evF, ext⟩ := ev1.reframe (l := l) (fun b hb => (hl b hb).2) (fun b hb i e ge ho hσ => by
    obtain ⟨φ, hφ⟩ := Option.isSome_iff_exists.mp ho
    obtain ⟨s, e1, k1, _⟩ := ev.ent i e ge
    obtain ⟨a, o, e2, _, _, _, g', _⟩ := k1 φ hφ
    rw [hσ] at e1
    have e1 := Option.some.inj e1
    rw [e2] at e1; cases e1
    rw [(hl _ hb).1] at g'; cases g')
  refine for_it w (fun i σ H => ∃ Γ', Inv i Γ' ∧ Ev c.K c.p H0 (Fr2 F H1 l) Γ' σ H) ?_ (fun i σ' H' _ ⟨Γ', _, e⟩ => hG H' e.frm e.stp) (fun i v σ' H' H'' hi ⟨Γ', iv, e⟩ y => ?_) (fun σ' H' ⟨Γ', iv, e⟩ => dd.nx Γ' σ' H' (hd Γ' iv) (e.unframe ext))
  · obtain ⟨Γ', wk, iv⟩ := h0
    exact ⟨Γ', iv, evF.weak wk⟩
  · obtain ⟨s2, d, hdd, md⟩ := hY i v H' H'' hi e.frm e.stp y
    refine hs i d Γ' hdd iv H0 _ σ' H'' v (e.step s2) md _ fun Γ2 σ2 w2 e2 => ?_
    refine w2 H0 _ σ2 H'' e2 x _ ⟨fun Γ3 σ3 H3 ⟨Γ4, wk, iv⟩ e3 => ⟨Γ4, iv, e3.weak wk⟩, dd.rt, fun Γ3 σ3 H3 n e3 => dd.nx Γ3 σ3 H3 n (e3.unframe ext), fun Γ3 σ3 H3 ⟨Γ4, wk, iv⟩ e3 => ⟨Γ4, iv, e3.weak wk⟩⟩
/-- for over anything that gives data; Inv by the turn -/
theorem ws_for {wi : TI} {g : TG} {ds : List PyData} (hw : VI c wi Γ ds) (Inv : Nat → List Ent → Prop) (h0 : Up (Inv 0) Γ)
    (hs : ∀ i d Γ', ds[i]? = some d → Inv i Γ' → WT1 c g d Γ' fun Γ2 => WS c t Γ2 { nx := Up (Inv (i + 1)), rt := P.rt, bk := P.nx, ct := Up (Inv (i + 1)) }) (hd : ∀ Γ', Inv ds.length Γ' → P.nx Γ') : WS c (tFor wi g t) Γ P :=
  ws_forW hw fun z e => by subst e; exact ⟨Inv, h0, hs, hd⟩
/-- an own list's place is fixed -/
theorem ws_la {i : Nat} {ds : List PyData} (hg : Γ[i]? = some (.ls ds)) (h : ∀ a vs, WS c t (Γ.set i (.la a vs ds)) P) : WS c t Γ P := fun H0 F σ H ev x D dd => by
  obtain ⟨s, hs, k1, _⟩ := ev.ent i _ hg
  obtain ⟨a, o, e, _, n, f, g, vs, rfl, m⟩ := k1 _ rfl
  subst e
  have hi : i < Γ.length := (List.getElem?_eq_some_iff.mp hg).1
  have e1 := ev.setG (i := i) (e := .la a vs ds) (v := .ref a) hi ⟨(fun φ z => by cases z; exact ⟨a, _, rfl, rfl, n, f, g, rfl, m⟩), trivial⟩ fun _ j d nj gj hd sj => ev.sep j i a d _ nj gj hg hd rfl sj hs
  have es : σ.set i (some (V.ref a)) = σ := by
    apply List.ext_getElem?
    intro j
    by_cases hj : i = j
    · subst hj
      rw [List.getElem?_set_self (List.getElem?_eq_some_iff.mp hs).1, hs]
    · rw [List.getElem?_set_ne hj]
  rw [es] at e1
  exact h a vs H0 F σ H e1 x D dd
/-- for over a list that a name of ours holds -/
theorem ws_forV {g : TG} {j : Nat} {a : Addr} {vs : List V} {ds : List PyData} (hg : Γ[j]? = some (.la a vs ds)) (Inv : Nat → List Ent → Prop) (h0 : Up (Inv 0) Γ) (hk : ∀ i Γ', Inv i Γ' → Γ'[j]? = some (.la a vs ds))
    (hs : ∀ i d Γ', ds[i]? = some d → Inv i Γ' → WT1 c g d Γ' fun Γ2 => WS c t Γ2 { nx := Up (Inv (i + 1)), rt := P.rt, bk := P.nx, ct := Up (Inv (i + 1)) }) (hd : ∀ Γ', Inv ds.length Γ' → P.nx Γ') : WS c (tFor (iList c.K (tVar j)) g t) Γ P := fun H0 F σ H ev x D dd => by
  have rd : ∀ {Γ' : List Ent} {σ' : L2.St} {H' : Hp}, Γ'[j]? = some (.la a vs ds) → Ev c.K c.p H0 F Γ' σ' H' → σ'[j]? = some (some (V.ref a)) ∧ H' a = some (.lst vs) ∧ Ims c.K H' vs ds := fun hg' e => by
    obtain ⟨s, hs, k1, _⟩ := e.ent j _ hg'
    obtain ⟨b, o, e1, e2, n, f, g, e3, m⟩ := k1 _ rfl
    have e2 : b = a := e2
    subst e2 e3
    exact ⟨by rw [hs, e1], g, m⟩
  obtain ⟨hσ, g0, m0⟩ := rd hg ev
  refine ⟨_, hσ, a, rfl, ⟨_, .inl (.inl g0)⟩, for_list (K := c.K) (a := a) (xs := vs) (fun i σ H => ∃ Γ', Inv i Γ' ∧ Ev c.K c.p H0 F Γ' σ H) ?_ (fun i σ' H' _ ⟨Γ', iv, e⟩ => .inl (.inl (rd (hk i Γ' iv) e).2.1)) (fun i v σ' H' hv ⟨Γ', iv, e⟩ => ?_) (fun σ' H' ⟨Γ', iv, e⟩ => dd.nx Γ' σ' H' (hd Γ' (by rw [← m0.length]; exact iv)) e)⟩
  · obtain ⟨Γ', wk, iv⟩ := h0
    exact ⟨Γ', iv, ev.weak wk⟩
  · obtain ⟨_, _, m'⟩ := rd (hk i Γ' iv) e
    obtain ⟨d, hdd, md⟩ := m'.getV hv
    refine hs i d Γ' hdd iv H0 _ σ' H' v e md _ fun Γ2 σ2 w2 e2 => ?_
    refine w2 H0 _ σ2 H' e2 x _ ⟨fun Γ3 σ3 H3 ⟨Γ4, wk, iv⟩ e3 => ⟨Γ4, iv, e3.weak wk⟩, dd.rt, fun Γ3 σ3 H3 n e3 => dd.nx Γ3 σ3 H3 n e3, fun Γ3 σ3 H3 ⟨Γ4, wk, iv⟩ e3 => ⟨Γ4, iv, e3.weak wk⟩⟩
/-- while -/
theorem ws_while {tc : TT} (Inv : Nat → List Ent → Prop) (m0 : Nat) (h0 : Up (Inv m0) Γ)
    (hs : ∀ m Γ', Inv m Γ' → WT c tc Γ' fun b => (b = true → WS c t Γ' { nx := fun Γ2 => ∃ m', m' < m ∧ Up (Inv m') Γ2, rt := P.rt, bk := P.nx, ct := fun Γ2 => ∃ m', m' < m ∧ Up (Inv m') Γ2 }) ∧ (b = false → P.nx Γ')) : WS c (tWhile tc t) Γ P := fun H0 F σ H ev x D dd => by
  refine ⟨fun m σ H => ∃ Γ', Inv m Γ' ∧ Ev c.K c.p H0 F Γ' σ H, ?_, fun m σ' H' ⟨Γ', iv, e⟩ => ?_⟩
  · obtain ⟨Γ', wk, iv⟩ := h0
    exact ⟨m0, Γ', iv, ev.weak wk⟩
  · refine hs m Γ' iv H0 F σ' H' e x _ fun b H1 ⟨ht, hf⟩ s1 => ?_
    have e1 := e.step s1
    cases b with
    | true =>
      refine ⟨fun σ2 H2 => ∃ m', m' < m ∧ ∃ Γ', Inv m' Γ' ∧ Ev c.K c.p H0 F Γ' σ2 H2, fun _ _ z => z, ht rfl H0 F σ' H1 e1 x _ ?_⟩
      exact ⟨fun Γ3 σ3 H3 ⟨m', l, Γ4, wk, iv⟩ e3 => ⟨m', l, Γ4, iv, e3.weak wk⟩, dd.rt, fun Γ3 σ3 H3 n e3 => dd.nx Γ3 σ3 H3 n e3, fun Γ3 σ3 H3 ⟨m', l, Γ4, wk, iv⟩ e3 => ⟨m', l, Γ4, iv, e3.weak wk⟩⟩
    | false => exact dd.nx Γ' σ' H1 (hf rfl) e1
/-! ### list comprehensions -/
theorem wipe_ev {K : PySem.W.Frag} {p : Option Addr} {H0 F H : Hp} {σ : L2.St} {k : Nat} (x : Ev K p H0 F Γ σ H) : Ev K p H0 F (Γ.set k .no) (wipe σ [k]) H := by
  show Ev K p H0 F (Γ.set k .no) (σ.set k none) H
  have ne : ∀ (j : Nat) (e : Ent), (Γ.set k .no)[j]? = some e → (e.obj K).isSome = true → k ≠ j ∧ Γ[j]? = some e := fun j e g ho => by
    by_cases hj : k = j
    · subst hj
      by_cases hk : k < Γ.length
      · rw [List.getElem?_set_self hk] at g; cases g; cases ho
      · rw [List.getElem?_eq_none (by rw [List.length_set]; omega)] at g; cases g
    · rw [List.getElem?_set_ne hj] at g; exact ⟨hj, g⟩
  refine ⟨fun j e g => ?_, fun i j a d e n gi gj hd he si sj => ?_, x.stp, x.pok0, x.frm, x.frp⟩
  · by_cases hj : k = j
    · subst hj
      have hk : k < Γ.length := by
        have := (List.getElem?_eq_some_iff.mp g).1
        rw [List.length_set] at this; exact this
      rw [List.getElem?_set_self hk] at g
      cases g
      obtain ⟨s, e, _⟩ := x.ent k _ (List.getElem?_eq_getElem hk)
      exact ⟨_, List.getElem?_set_self (List.getElem?_eq_some_iff.mp e).1, ⟨(fun φ z => by cases z), trivial⟩⟩
    · rw [List.getElem?_set_ne hj] at g
      obtain ⟨s, e, q⟩ := x.ent j e g
      exact ⟨s, by rw [List.getElem?_set_ne hj]; exact e, q⟩
  · obtain ⟨n1, g1⟩ := ne i d gi hd
    obtain ⟨n2, g2⟩ := ne j e gj he
    rw [List.getElem?_set_ne n1] at si
    rw [List.getElem?_set_ne n2] at sj
    exact x.sep i j a d e n g1 g2 hd he si sj
/-- [elt for name in iter if test]: f tells the element, k whether it is kept -/
theorem v_lc {wi : TI} {j : Nat} {tt : TT} {ds : List PyData} {c0 : Cd} (hw : VI c wi Γ ds) (k : PyData → Bool) (f : PyData → PyData) (hz : ds.length ≤ 1000000)
    (hj : j < Γ.length) (hc : c0 = { c with E := fun _ _ _ => False, X := fun _ => False } := by rfl)
    (ht : ∀ d ∈ ds, VT c0 tt (Γ.set j (.im d)) (k d)) (he : ∀ d ∈ ds, k d = true → VE c0 te (Γ.set j (.im d)) (.im (f d))) : VE c (tLc wi (gName j) tt te [j]) Γ (.ls ((ds.filter k).map f)) := fun H0 F σ H ev x Q' q => by
  subst hc
  refine hw H0 F σ H ev x _ fun J H1 ds' l e s1 hl ⟨G, Y, w, hG, hY⟩ D hD => ?_
  subst e
  have ev1 := ev.step s1
  obtain ⟨evF, ext⟩ := ev1.reframe (l := l) (fun b hb => (hl b hb).2) (fun b hb i e ge ho hσ => by
    obtain ⟨φ, hφ⟩ := Option.isSome_iff_exists.mp ho
    obtain ⟨s, e1, k1, _⟩ := ev.ent i e ge
    obtain ⟨a, o, e2, _, _, _, g', _⟩ := k1 φ hφ
    rw [hσ] at e1
    have e1 := Option.some.inj e1
    rw [e2] at e1; cases e1
    rw [(hl _ hb).1] at g'; cases g')
  have pk1 := ev1.pok
  refine lc_it w (fun i H' => ∃ vs, H' D = some (.lst vs) ∧ Ims c.K H' vs (((ds'.take i).filter k).map f) ∧ (∀ a o, Fr2 F H1 l a = some o → H' a = some o) ∧ Stp c.p H1 H') ⟨[], upd_same, ?_, fun a o e => ?_, Stp.new hD⟩ (fun i H' _ ⟨vs, _, _, fr, s2⟩ => hG H' fr (ev1.stp.trans s2)) (fun i v H' H'' hi ⟨vs, hv, mv, fr, s2⟩ y => ?_) (fun H' ⟨vs, hv, mv, fr, s2⟩ => ?_)
  · simp; exact .nil
  · have := evF.frm a o e
    rw [upd_ne (ne_of_none this hD)]; exact this
  · obtain ⟨s3, d, hd, md⟩ := hY i v H' H'' hi fr (ev1.stp.trans s2) y
    have ev2 := (wipe_ev (k := j) ((ev1.step s2).step s3)).setG (i := j) (e := .im d) (v := v) (by rw [List.length_set]; exact hj) ⟨(fun φ z => by cases z), v, rfl, md⟩ (fun h => by cases h)
    rw [List.set_set] at ev2
    have hmem : d ∈ ds' := List.mem_of_getElem? hd
    have pk2 := pk1.step (s2.trans s3)
    have hv2 : H'' D = some (.lst vs) := s3.keep D _ (fun z => ((pk1.step s2) D z).neL hv rfl) hv
    have x0 : ({ c with E := fun _ _ _ => False, X := fun _ => False } : Cd).XOk H0 := fun _ _ _ _ h => h.elim
    refine ⟨?_, ht d hmem H0 F _ H'' ev2 x0 _ fun b H3 eb s4 => ?_⟩
    · show ((σ.set j none).set j (some v)).set j none = σ.set j none
      rw [List.set_set, List.set_set]
    · have tk : (ds'.take (i + 1)) = ds'.take i ++ [d] := by
        rw [List.take_add_one, hd]; rfl
      cases hb : b with
      | true =>
        rw [hb] at eb
        show te _ H3 _
        refine he d hmem eb.symm H0 F _ H3 (ev2.step s4) x0 _ fun r yv H4 er s5 r5 => ?_
        subst er
        have pk3 := pk2.step s4
        have hv4 : H4 D = some (.lst vs) := s5.keep D _ (fun z => (pk3 D z).neL (s4.keep D _ (fun z => (pk2 D z).neL hv2 rfl) hv2) rfl) (s4.keep D _ (fun z => (pk2 D z).neL hv2 rfl) hv2)
        have s14 : Stp c.p H1 H4 := ((s2.trans s3).trans s4).trans s5
        have tp : Tup H4 (upd H4 D (.lst (vs ++ [yv]))) := by
          constructor
          · intro b xs h; rw [upd_ne]; exact h
            intro z; rw [z, hv4] at h; cases h
          · intro b ob u h; rw [upd_ne]; exact h
            intro z; rw [z, hv4] at h; cases h
        have m4 : Ims c.K H4 vs (((ds'.take i).filter k).map f) := ((mv.tupS (s3.tup (pk1.step s2))).tupS (s4.tup pk2)).tupS (s5.tup pk3)
        refine ⟨vs, hv4, ?_, vs ++ [yv], upd_same, ?_, fun a o e => ?_, ?_⟩
        · have := List.length_filter_le k (ds'.take i)
          rw [m4.length, List.length_map, sizeLine_eq]
          have := List.length_take_le' i ds'
          omega
        · rw [tk, List.filter_append, List.map_append]
          have : ([d] : List PyData).filter k = [d] := by simp [← eb]
          rw [this]
          exact (m4.tupS tp).append (.cons (Im.tupS tp r5.2) .nil)
        · have h1 := evF.frm a o e
          rw [upd_ne (ne_of_none h1 hD)]
          exact s14.keep a o (fun z => by rw [evF.frp a z] at e; cases e) h1
        · refine ⟨fun a o n h => ?_, fun q l hq hp => ?_⟩
          · rw [upd_ne (ne_of_none h hD)]; exact s14.keep a o n h
          · obtain ⟨ns, y1, y2, y3, y4, z1, z2, r⟩ := s14.pen q l hq hp
            obtain ⟨ns0, w1, w2, w3, w4, v1, v2, _⟩ := hp
            exact ⟨ns, y1, y2, y3, y4, by rw [upd_ne (ne_of_none v1 hD)]; exact z1, by rw [upd_ne (ne_of_none v2 hD)]; exact z2, r⟩
      | false =>
        rw [hb] at eb
        show ∃ vs, _
        have hv3 := s4.keep D _ (fun z => (pk2 D z).neL hv2 rfl) hv2
        have s13 : Stp c.p H1 H3 := (s2.trans s3).trans s4
        refine ⟨vs, hv3, ?_, fun a o e => s13.keep a o (fun z => by rw [evF.frp a z] at e; cases e) (evF.frm a o e), s13⟩
        rw [tk, List.filter_append, List.map_append]
        have : ([d] : List PyData).filter k = [] := by simp [← eb]
        rw [this]
        simpa using (mv.tupS (s3.tup (pk1.step s2))).tupS (s4.tup pk2)
  · rw [List.take_length] at mv
    exact q _ _ H' rfl (s1.trans s2) (res_ls.2 ⟨D, vs, rfl, s1.back ev.pok hD, hv, mv⟩)
/-- no test -/
theorem t_yes : VT c tYes Γ true := fun H0 F σ H ev x Q' q => q true H rfl (Stp.refl _ _)
theorem v_lcm {wi : TI} {j : Nat} {ds : List PyData} (hw : VI c wi Γ ds) (f : PyData → PyData) (hz : ds.length ≤ 1000000) (hj : j < Γ.length) (he : ∀ d ∈ ds, VE { c with E := fun _ _ _ => False, X := fun _ => False } te (Γ.set j (.im d)) (.im (f d))) : VE c (tLc wi (gName j) tYes te [j]) Γ (.ls (ds.map f)) := by
  have := v_lc (c := c) (te := te) hw (fun _ => true) f hz hj rfl (fun d _ => t_yes) (fun d hd _ => he d hd)
  rwa [List.filter_eq_self.mpr (fun _ _ => rfl)] at this
end
/-! ## a def keeps its contract -/
theorem start_get {N : List Str} {vs : List V} {i : Nat} {v : V} (h : vs[i]? = some v) : (L2.start N vs)[i]? = some (some v) := by
  unfold L2.start
  have hi := (List.getElem?_eq_some_iff.mp h).1
  rw [List.getElem?_append_left (by simpa using hi), List.getElem?_map, h]; rfl
theorem start_rest {N : List Str} {vs : List V} {i : Nat} (h : vs.length ≤ i) (h2 : i < N.length) : (L2.start N vs)[i]? = some none := by
  unfold L2.start
  rw [List.getElem?_append_right (by simpa using h), List.getElem?_replicate, if_pos]
  simp; omega
theorem ResAll.get {K : PySem.W.Frag} {p : Option Addr} {H0 H : Hp} : ∀ {rs : List Ent} {vs : List V} {i : Nat} {r : Ent}, ResAll K p H0 H rs vs → rs[i]? = some r → ∃ v, vs[i]? = some v ∧ ResOk K p H0 H r v
  | [], _, _, _, _, e => by simp at e
  | _ :: _, _, 0, r, ⟨v, ws, ev, a, _⟩, e => by
    subst ev; simp at e; subst e; exact ⟨v, rfl, a⟩
  | _ :: _, _, i + 1, r, ⟨v, ws, ev, _, b, _⟩, e => by
    subst ev
    exact ResAll.get (i := i) b (by simpa using e)
theorem ev_start {K : PySem.W.Frag} {p : Option Addr} {H : Hp} {N : List Str} {rs : List Ent} {vs : List V} {m : Nat} (pk : POk p H) (h : ResAll K p H H rs vs) (hm : rs.length + m ≤ N.length) : Ev K p H (fun _ => none) (rs ++ List.replicate m .no) (L2.start N vs) H := by
  have noOwn : ∀ {r : Ent} {v : V}, ResOk K p H H r v → (r.obj K).isSome = true → False := fun {r v} a ho => by
    obtain ⟨φ, hφ⟩ := Option.isSome_iff_exists.mp ho
    obtain ⟨x, o, _, _, n, g, _⟩ := a.1 φ hφ
    rw [n] at g; cases g
  have kind : ∀ (i : Nat) (e : Ent), (rs ++ List.replicate m .no)[i]? = some e → (∃ v, rs[i]? = some e ∧ vs[i]? = some v ∧ ResOk K p H H e v) ∨ (e = .no ∧ rs.length ≤ i ∧ i < rs.length + m) := fun i e g => by
    rcases Nat.lt_or_ge i rs.length with z | z
    · rw [List.getElem?_append_left z] at g
      obtain ⟨v, h1, h2⟩ := h.get g
      exact .inl ⟨v, g, h1, h2⟩
    · rw [List.getElem?_append_right z, List.getElem?_replicate] at g
      split at g
      · cases g; exact .inr ⟨rfl, z, by omega⟩
      · cases g
  refine ⟨fun i e g => ?_, fun i j a d e n gi gj hd he si sj => ?_, Stp.refl _ _, pk, (fun _ _ z => by cases z), fun _ _ => rfl⟩
  · rcases kind i e g with ⟨v, _, h1, h2⟩ | ⟨rfl, h1, h2⟩
    · refine ⟨_, start_get h1, fun φ z => (noOwn h2 (by rw [z]; rfl)).elim, ?_⟩
      have h3 := h2.2
      cases e with
      | im d => exact ⟨v, rfl, h3⟩
      | ro ds => obtain ⟨a, ws, e, g, m⟩ := h3; exact ⟨a, ws, by rw [e], g, g, m⟩
      | pen => obtain ⟨q, e, z⟩ := h3; exact ⟨q, e, by rw [z]⟩
      | pn => exact noOwn h2 rfl
      | raw w => have h3 : v = w := h3; subst h3; rfl
      | ex a d fs => obtain ⟨e, k⟩ := h3; exact ⟨by rw [e], k⟩
      | no => trivial
      | ls _ => trivial
      | la _ _ _ => trivial
      | dk _ => trivial
      | dt _ => trivial
    · refine ⟨_, start_rest (by rw [h.length]; exact h1) (by omega), (fun φ z => by cases z), trivial⟩
  · rcases kind i d gi with ⟨v, _, h1, h2⟩ | ⟨rfl, _⟩
    · exact noOwn h2 hd
    · cases hd
section
variable {P : Program} {w : World} {K : PySem.W.Frag} {mg : Str → Option Value} {base : Heap}
abbrev PsF {α : Type} (C : Con α) (a : α) : Ps := { nx := fun _ => C.post a (.im .none), rt := C.post a }
/-- a def that raises nothing -/
theorem fn_ok {α : Type} {x qual : Str} {st : Stmt} {f : Addr} {fd : FuncData} {N ps : List Str} {k : Nat} (C : Con α) (F : Fun K x qual st f fd) (S : FnScope N ps (defScope st)) (ha : ∀ a, (C.args a).length = ps.length)
    (hb : ∀ (cdv : Value) (A : Around) (outer : List PySem.Env) (s : Shared) (H : Hp), Room k (A.deeper (PyProof.Rows.envOfC qual (defScope st) s.heap.objs.size f cdv)) → ∃ t, PSs (cxOf CX0 P w K mg base N qual (defScope st) f cdv A outer s H E0).nox (defBody st) t ∧
      ∀ (p : Option Addr) (a : α), C.pre a → WS ⟨K, p, E0, fun _ => False⟩ t (C.args a ++ List.replicate (N.length - ps.length) .no) (PsF C a)) : FnOk P w K mg base CX0 (k + 1) f fd ps (spC K C) := by
  have hN : ps.length ≤ N.length := by have := congrArg List.length S.pre; rw [List.length_take] at this; omega
  refine F.ok S (fun vs H Q E h => ?_) (fun cdv A outer s H vs Q E hr h => ?_)
  · obtain ⟨p, a, _, r, _⟩ := h
    rw [r.length, ha]
  · obtain ⟨p, a, pk, r, pre, post, _⟩ := h
    obtain ⟨t, h1, h2⟩ := hb cdv A outer s H hr
    refine ⟨t, h1, h2 p a pre H (fun _ => none) _ H (ev_start pk r (by rw [ha]; omega)) (fun _ _ _ _ z => z.elim) _ ⟨fun Γ σ H' n e => ?_, fun r v H' hp s1 ro => post r v H' hp s1 ro, fun _ _ _ z => z.elim, fun _ _ _ z => z.elim⟩⟩
    exact post _ _ H' n e.stp (res_im.2 .non)
/-- a def that may raise -/
theorem fn_okX {α : Type} {x qual : Str} {st : Stmt} {f : Addr} {fd : FuncData} {N ps : List Str} {k : Nat} (C : Con α) (F : Fun K x qual st f fd) (S : FnScope N ps (defScope st)) (ha : ∀ a, (C.args a).length = ps.length)
    (hb : ∀ (cdv : Value) (A : Around) (outer : List PySem.Env) (s : Shared) (H : Hp) (E : XK), Room k (A.deeper (PyProof.Rows.envOfC qual (defScope st) s.heap.objs.size f cdv)) → ∃ t, PSs (cxOf (L2.CX P w) P w K mg base N qual (defScope st) f cdv A outer s H E) (defBody st) t ∧
      ∀ (p : Option Addr) (a : α), C.pre a → WS ⟨K, p, E, C.exc a⟩ t (C.args a ++ List.replicate (N.length - ps.length) .no) (PsF C a)) : FnOk P w K mg base (L2.CX P w) (k + 1) f fd ps (spC K C) := by
  have hN : ps.length ≤ N.length := by have := congrArg List.length S.pre; rw [List.length_take] at this; omega
  refine F.okX S (fun vs H Q E h => ?_) (fun cdv A outer s H vs Q E hr h => ?_)
  · obtain ⟨p, a, _, r, _⟩ := h
    rw [r.length, ha]
  · obtain ⟨p, a, pk, r, pre, post, exc⟩ := h
    obtain ⟨t, h1, h2⟩ := hb cdv A outer s H E hr
    refine ⟨t, h1, h2 p a pre H (fun _ => none) _ H (ev_start pk r (by rw [ha]; omega)) (fun e cls d H' z s1 eo => exc e cls d H' z s1 eo) _ ⟨fun Γ σ H' n e => ?_, fun r v H' hp s1 ro => post r v H' hp s1 ro, fun _ _ _ z => z.elim, fun _ _ _ z => z.elim⟩⟩
    exact post _ _ H' n e.stp (res_im.2 .non)
end
/-! ## isinstance -/
def tyD : PyData → String
  | .none => "NoneType"
  | .bool _ => "bool"
  | .int _ => "int"
  | .str _ => "str"
  | .list _ => "list"
  | .tuple _ => "tuple"
  | .dict _ => "dict"
section
variable {c : Cd} {te ta tb : TE} {tA : TA} {Γ : List Ent} {Q : Ent → Prop} {r ra rb z : Ent}
theorem ty_sqT {K : PySem.W.Frag} {H : Hp} {a : Addr} {xs : List V} (h : SqT K H a xs) : TyX K H (.ref a) (.type "tuple") := by
  rcases h with (h | ⟨o, h⟩) | ⟨o, its, n, h, hc, _⟩
  · exact .base (.tup h)
  · exact .fTuple h
  · exact .kTuple h hc
theorem ty_sqL {K : PySem.W.Frag} {H : Hp} {a : Addr} {xs : List V} (h : SqL K H a xs) : TyX K H (.ref a) (.type "list") := by
  rcases h with (h | ⟨o, h⟩) | ⟨o, its, n, h, hc, _⟩
  · exact .base (.lst h)
  · exact .base (.frz h)
  · exact .kList h hc
theorem Im.ty {K : PySem.W.Frag} {H : Hp} {v : V} {d : PyData} (h : Im K H v d) : TyX K H v (.type (tyD d)) := by
  cases h with
  | non => exact .base .non
  | bl b => exact .base (.bl b)
  | int i => exact .base (.int i)
  | str x => exact .base (.str x)
  | tup hs _ => exact ty_sqT hs
/-- the answer, by the kind -/
def isK (T : String) (d : PyData) : Bool := match d with
  | .int _ => T == "int"
  | .bool _ => T == "int" || T == "bool"
  | .str _ => T == "str"
  | .list _ => T == "list"
  | .tuple _ => T == "tuple"
  | .none => false
  | .dict _ => T == "dict"
def okT (T : String) : Prop := ∀ d : PyData, kitB (tyD d) T = some (isK T d)
theorem ok_int : okT "int" := fun d => by cases d <;> (simp only [tyD, isK]; decide +kernel)
theorem ok_bool : okT "bool" := fun d => by cases d <;> (simp only [tyD, isK]; decide +kernel)
theorem ok_str : okT "str" := fun d => by cases d <;> (simp only [tyD, isK]; decide +kernel)
theorem ok_tuple : okT "tuple" := fun d => by cases d <;> (simp only [tyD, isK]; decide +kernel)
theorem ok_list : okT "list" := fun d => by cases d <;> (simp only [tyD, isK]; decide +kernel)
theorem n_isi {T : String} {d : PyData} (h : okT T) : OpN c (rIsi c.K) [.im d, .raw (.ty T)] (B (isK T d)) := ⟨fun xs H H' _ s a0 Q' q => by
  obtain ⟨v, w, rfl, a, b⟩ := all2 a0
  have b : w = .ty T := b.2
  subst b
  exact ⟨v, _, _, _, _, rfl, .ty T, Im.ty a.2, kit_ty (h d), q _ H' (Stp.refl _ _) (res_im.2 (.bl _))⟩⟩
theorem n_isiL {T : String} {ds : List PyData} (h : okT T) : OpN c (rIsi c.K) [.ro ds, .raw (.ty T)] (B (isK T (.list ds))) := ⟨fun xs H H' _ s a0 Q' q => by
  obtain ⟨v, w, rfl, a, b⟩ := all2 a0
  have b : w = .ty T := b.2
  subst b
  obtain ⟨ad, vs, rfl, hs, ms⟩ := res_ro.1 a
  exact ⟨_, _, _, _, _, rfl, .ty T, ty_sqL hs, kit_ty (h (.list ds)), q _ H' (Stp.refl _ _) (res_im.2 (.bl _))⟩⟩
end
/-! ## the built-ins by name -/
theorem b_int : bootBuiltins "int" = some (.type "int") := by decide +kernel
theorem b_bool : bootBuiltins "bool" = some (.type "bool") := by decide +kernel
theorem b_str : bootBuiltins "str" = some (.type "str") := by decide +kernel
theorem b_tuple : bootBuiltins "tuple" = some (.type "tuple") := by decide +kernel
theorem b_list : bootBuiltins "list" = some (.type "list") := by decide +kernel
theorem b_ValueError : bootBuiltins "ValueError" = some (.type "ValueError") := by decide +kernel
theorem b_range : bootBuiltins "range" = some (.type "range") := by decide +kernel
theorem b_enumerate : bootBuiltins "enumerate" = some (.type "enumerate") := by decide +kernel
theorem b_zip : bootBuiltins "zip" = some (.type "zip") := by decide +kernel
theorem b_isinstance : bootBuiltins "isinstance" = some (.builtin "isinstance") := by decide +kernel
theorem b_len : bootBuiltins "len" = some (.builtin "len") := by decide +kernel
theorem b_abs : bootBuiltins "abs" = some (.builtin "abs") := by decide +kernel
theorem b_sum : bootBuiltins "sum" = some (.builtin "sum") := by decide +kernel
theorem b_all : bootBuiltins "all" = some (.builtin "all") := by decide +kernel
theorem b_any : bootBuiltins "any" = some (.builtin "any") := by decide +kernel
theorem b_repr : bootBuiltins "repr" = some (.builtin "repr") := by decide +kernel
theorem b_sorted : bootBuiltins "sorted" = some (.builtin "sorted") := by decide +kernel
theorem b_max : bootBuiltins "max" = some (.builtin "max") := by decide +kernel
theorem b_min : bootBuiltins "min" = some (.builtin "min") := by decide +kernel
/-! ## is True, is False -/
section
open PySem.Spec PyProof.Rows
def rIsD : R2 := fun x y H Q => ∃ b : Bool, y = .bl b ∧ Q (.bl (decide (x = .bl b))) H
theorem op_isD {X : Cx} : OpR X (compareOp .Is) rIsD := by
  intro pins s σ H x y v u Q I rx ry h
  obtain ⟨b, rfl, q⟩ := h
  cases (show u = Value.bool b from ry)
  cases x with
  | bl a =>
    cases (show v = Value.bool a from rx)
    by_cases e : a = b
    · subst e
      exact wpAny_is_self rfl ⟨.bl true, H, I, rfl, by simpa using q⟩
    · exact wpAny_is_other rfl (fun z => e (Value.bool.inj z)) ⟨.bl false, H, I, rfl, by simpa [e] using q⟩
  | non => cases rx; exact wpAny_is_other rfl (fun z => by cases z) ⟨.bl false, H, I, rfl, by simpa using q⟩
  | int i => obtain ⟨t, rfl⟩ := rx; exact wpAny_is_other rfl (fun z => by cases z) ⟨.bl false, H, I, rfl, by simpa using q⟩
  | str i => obtain ⟨t, rfl⟩ := rx; exact wpAny_is_other rfl (fun z => by cases z) ⟨.bl false, H, I, rfl, by simpa using q⟩
  | byt i => obtain ⟨t, rfl⟩ := rx; exact wpAny_is_other rfl (fun z => by cases z) ⟨.bl false, H, I, rfl, by simpa using q⟩
  | flt i => obtain ⟨t, rfl⟩ := rx; exact wpAny_is_other rfl (fun z => by cases z) ⟨.bl false, H, I, rfl, by simpa using q⟩
  | ref a => cases rx; exact wpAny_is_other rfl (fun z => by cases z) ⟨.bl false, H, I, rfl, by simpa using q⟩
  | ty a => cases rx; exact wpAny_is_other rfl (fun z => by cases z) ⟨.bl false, H, I, rfl, by simpa using q⟩
def isBo (b : Bool) : PyData → Bool
  | .bool a => decide (a = b)
  | _ => false
theorem o_isD {c : Cd} {d : PyData} {b : Bool} : Op2 c rIsD (.im d) (B b) (B (isBo b d)) := ⟨fun x y H H' _ s a k Q' q => by
  have k := Im.blv k.2
  subst k
  refine ⟨b, rfl, ?_⟩
  have e : decide (x = V.bl b) = isBo b d := by
    have a := a.2
    cases a <;> simp [isBo]
  rw [e]
  exact q _ H' (Stp.refl _ _) (res_im.2 (.bl _))⟩
end
/-! ## raise -/
/-- an own __init__ that stores its parameters under their names -/
def spInit (C : Addr) (ns : List Str) : Sp := fun vs H Q _ => ∃ (a : Addr) (ws : List V), vs = .ref a :: ws ∧ ws.length = ns.length ∧ H a = some (exo a C none) ∧
  ∀ (d : Addr) (H' : Hp), H d = none → d ≠ a → H' a = some (exo a C (some d)) → H' d = some (exd d (ns.zip ws).reverse) → (∀ b, b ≠ a → b ≠ d → H' b = H b) → Q .non H'
section
variable {K : PySem.W.Frag} {C a : Addr} {D : Ends} {H : Hp}
theorem init1 {f1 : Str} {w1 : V} {Q : VK} (T : OexC K C) (n1 : PySem.W.findIn K (.ref C) f1 = some none) (h : H a = some (exo a C none))
    (k : ∀ (d : Addr) (H' : Hp), H d = none → d ≠ a → H' a = some (exo a C (some d)) → H' d = some (exd d [(f1, w1)]) → (∀ b, b ≠ a → b ≠ d → H' b = H b) → D.nx [some (.ref a), some w1] H') :
    tOst K f1 (tVar 0) (tVar 1) D [some (.ref a), some w1] H :=
  ⟨_, rfl, _, rfl, a, C, rfl, T, n1, .inl ⟨h, fun d hd na => k d _ hd na upd_same (by rw [upd_ne na, upd_same]) fun b h1 h2 => by rw [upd_ne h1, upd_ne h2]⟩⟩
theorem init2 {f1 f2 : Str} {w1 w2 : V} (T : OexC K C) (n1 : PySem.W.findIn K (.ref C) f1 = some none) (n2 : PySem.W.findIn K (.ref C) f2 = some none) (h : H a = some (exo a C none))
    (k : ∀ (d : Addr) (H' : Hp), H d = none → d ≠ a → H' a = some (exo a C (some d)) → H' d = some (exd d [(f2, w2), (f1, w1)]) → (∀ b, b ≠ a → b ≠ d → H' b = H b) → D.nx [some (.ref a), some w1, some w2] H') :
    tSeq (tOst K f1 (tVar 0) (tVar 1)) (tOst K f2 (tVar 0) (tVar 2)) D [some (.ref a), some w1, some w2] H := by
  refine ⟨_, rfl, _, rfl, a, C, rfl, T, n1, .inl ⟨h, fun d hd na => ?_⟩⟩
  refine ⟨_, rfl, _, rfl, a, C, rfl, T, n2, .inr ⟨d, _, upd_same, by rw [upd_ne na, upd_same], by show 1 ≤ 900; decide, ?_⟩⟩
  exact k d _ hd na (by rw [upd_ne (Ne.symm na), upd_same]) upd_same fun b h1 h2 => by rw [upd_ne h2, upd_ne h1, upd_ne h2]
theorem init3 {f1 f2 f3 : Str} {w1 w2 w3 : V} (T : OexC K C) (n1 : PySem.W.findIn K (.ref C) f1 = some none) (n2 : PySem.W.findIn K (.ref C) f2 = some none) (n3 : PySem.W.findIn K (.ref C) f3 = some none) (h : H a = some (exo a C none))
    (k : ∀ (d : Addr) (H' : Hp), H d = none → d ≠ a → H' a = some (exo a C (some d)) → H' d = some (exd d [(f3, w3), (f2, w2), (f1, w1)]) → (∀ b, b ≠ a → b ≠ d → H' b = H b) → D.nx [some (.ref a), some w1, some w2, some w3] H') :
    tSeq (tOst K f1 (tVar 0) (tVar 1)) (tSeq (tOst K f2 (tVar 0) (tVar 2)) (tOst K f3 (tVar 0) (tVar 3))) D [some (.ref a), some w1, some w2, some w3] H := by
  refine ⟨_, rfl, _, rfl, a, C, rfl, T, n1, .inl ⟨h, fun d hd na => ?_⟩⟩
  refine ⟨_, rfl, _, rfl, a, C, rfl, T, n2, .inr ⟨d, _, upd_same, by rw [upd_ne na, upd_same], by show 1 ≤ 900; decide, ?_⟩⟩
  refine ⟨_, rfl, _, rfl, a, C, rfl, T, n3, .inr ⟨d, _, by rw [upd_ne (Ne.symm na), upd_same], upd_same, by show 2 ≤ 900; decide, ?_⟩⟩
  exact k d _ hd na (by rw [upd_ne (Ne.symm na), upd_ne (Ne.symm na), upd_same]) upd_same fun b h1 h2 => by rw [upd_ne h2, upd_ne h2, upd_ne h1, upd_ne h2]
end
section
variable {c : Cd} {tA : TA} {Γ : List Ent} {P : Ps}
theorem ResAll.ims {K : PySem.W.Frag} {p : Option Addr} {H0 H : Hp} : ∀ {ds : List PyData} {vs : List V}, ResAll K p H0 H (ds.map Ent.im) vs → Ims K H vs ds
  | [], _, x => by rw [show _ = [] from x]; exact .nil
  | d :: ds, _, ⟨v, ws, e, a, b, _⟩ => by rw [e]; exact .cons a.2 (ResAll.ims b)
theorem zip_fst {α β : Type} : ∀ {ns : List α} {ws : List β}, ws.length = ns.length → (ns.zip ws).map (·.1) = ns
  | [], _, _ => rfl
  | n :: ns, [], h => by cases h
  | n :: ns, w :: ws, h => by simp [zip_fst (ns := ns) (ws := ws) (by simpa using h)]
theorem zip_snd {α β : Type} : ∀ {ns : List α} {ws : List β}, ws.length = ns.length → (ns.zip ws).map (·.2) = ws
  | [], [], _ => rfl
  | n :: ns, [], h => by cases h
  | n :: ns, w :: ws, h => by simp [zip_snd (ns := ns) (ws := ws) (by simpa using h)]
theorem ws_raise {C : Addr} {ns : List Str} {ds : List PyData} (h : VA c tA Γ (ds.map Ent.im)) (hl : ds.length = ns.length) (hz : ds.length ≤ 1000) (hx : c.X (C, (ns.zip ds).reverse)) : WS c (fun _ σ H => tMkO C (spInit C ns) [] tA σ H fun cls d H' => c.E cls d H') Γ P := fun H0 F σ H ev x D dd => by
  refine h H0 F σ H ev x _ fun rs vs H1 e s1 r1 => ?_
  subst e
  have ms := r1.ims
  have lv : vs.length = ns.length := by rw [ms.length, hl]
  refine ⟨by rw [ms.length]; exact hz, fun a ha => ?_⟩
  refine ⟨a, vs ++ [], rfl, by rw [List.append_nil]; exact lv, upd_same, fun d H2 hd na h2a h2d h2 => ?_⟩
  rw [List.append_nil] at h2d
  have hd1 : H1 d = none := by rw [← hd, upd_ne na]
  have old : ∀ b o, H1 b = some o → upd (del H2 a) d (.xd (ns.zip vs).reverse) b = some o := fun b o e => by
    have nb : b ≠ a := ne_of_none e ha
    have nd : b ≠ d := ne_of_none e hd1
    rw [upd_ne nd, del_ne nb, h2 b nb nd, upd_ne nb]; exact e
  refine ⟨rfl, d, _, h2a, h2d, hd1, ?_⟩
  have st : Stp c.p H1 (upd (del H2 a) d (.xd (ns.zip vs).reverse)) := ⟨fun b o _ e => old b o e, fun q l _ k => by
    obtain ⟨n', x1, x2, x3, x4, g1, g2, r⟩ := k
    exact ⟨n', x1, x2, x3, x4, old _ _ g1, old _ _ g2, r⟩⟩
  refine x _ _ _ _ hx (ev.stp.trans (s1.trans st)) ⟨rfl, d, _, rfl, upd_same, ?_, ?_⟩
  · rw [List.map_reverse, List.map_reverse, zip_fst lv, zip_fst hl]
  · rw [List.map_reverse, List.map_reverse, zip_snd lv, zip_snd hl]
    exact Ims.rev (ms.tupS (st.tup (ev.step s1).pok))
end
end DL

namespace DL
open PySem PySem.Spec PyProof.Rows L2
/-! ## defs called with the caught error, repr -/
structure FnE (P : Program) (w : World) (K : PySem.W.Frag) (mg : Str → Option Value) (base : Heap) (k : Nat) (f : Addr) (fd : FuncData) (ps : List Str) (sp : Addr → Value → Option Addr → Sp) : Prop where
  len : ∀ a cls d vs H Q E, sp a cls d vs H Q E → vs.length = ps.length
  run : ∀ (A : Around) (outer : List Env) (s : Shared) (H : Hp) (args : Args) (us : List Value) (vs : List V) (Q : VK) (pa : Addr) (oe : Obj) (cls : Value) (d : Option Addr), L2H.RoomH k A → A.guards = some [] → L2H.PinOk outer H s (pa, oe) → Zc cls d oe → (∃ fv, oe.data = .fields fv) →
    Env0 P w K mg base A outer s H → BindsTo s fd args (ps.zip us) → Vals vs us → sp pa cls d vs H Q E0 → codeAny (model P w) A (.call (.ref f) args) (CR CX0 outer P w H s Q E0) s
section
variable {P : Program} {w : World} {K : PySem.W.Frag} {mg : Str → Option Value} {base : Heap}
theorem fn_okE {x qual : Str} {st : Stmt} {f : Addr} {fd : FuncData} {N ps : List Str} {k : Nat} {sp : Addr → Value → Option Addr → Sp} (F : Fun K x qual st f fd) (S : FnScope N ps (defScope st)) (len : ∀ a cls d vs H Q E, sp a cls d vs H Q E → vs.length = ps.length)
    (hbody : ∀ (cdv : Value) (A : Around) (outer : List Env) (s : Shared) (H : Hp) (vs : List V) (Q : VK) (pa : Addr) (oe : Obj) (cls : Value) (d : Option Addr), A.guards = some [] → L2H.RoomH k (A.deeper (envOfC qual (defScope st) s.heap.objs.size f cdv)) → Zc cls d oe → (∃ fv, oe.data = .fields fv) → sp pa cls d vs H Q E0 →
      ∃ t, PSs (L2H.cxH CX0 P w K mg base N qual (defScope st) f cdv A outer s H E0 (pa, oe)) (defBody st) t ∧ t { nx := fun _ H' => Q .non H', rt := Q } (L2.start N vs) H) : FnE P w K mg base (k + 1) f fd ps sp := by
  obtain ⟨oc, od, kV, doc, pm, an, cdv, ct, osl, rfl, lk, hcd⟩ := F.ex
  constructor
  · exact len
  intro A outer s H args us vs Q pa oe cls d room gd pin hz hf e0 binds rel hsp
  have hlen := len _ _ _ _ _ _ _ hsp
  have inK : K.In s.heap := e0.mod.kin.keeps fun b o q => (e0.bs b o q).1
  have nolim : s.heap.NoLimit := e0.mod.nolimit.keeps fun b o q => (e0.bs b o q).1
  refine codeAny_call_function room.depth (inK _ _ lk) rfl S.co S.gen rfl (PySem.W.codeRec_of inK hcd) (binds _ _ _ _ ?_)
  refine wpAny_newFunctionEnv_cells S.kind ?_ fun env eenv s1 ic => ?_
  · rintro ⟨n, v⟩ hy
    exact (S.par n (List.of_mem_zip hy).1).elim .inl fun q => .inr ⟨q, PySem.W.cellsFrom_some _ _ _ (.inl q)⟩
  · subst eenv
    refine ⟨nolim.keeps ic.toInCall.keep, codeAny_func ?_⟩
    obtain ⟨t, pt, ht⟩ := hbody cdv A outer s H vs Q pa oe cls d gd (room.deeper _) hz hf hsp
    have I0 := L2H.inv_startH (CX := CX0) (P := P) (w := w) (mg := mg) (base := base) (E := E0) S pin e0 hlen rel ic
    refine wpAny_mono (pt.run [] s1 (L2.start N vs) H _ I0 ht) (fun fl s' q => ?_) fun e s' q => q
    cases fl with
    | ret u => obtain ⟨v, σ', H', J, rv, hq⟩ := q; exact ⟨v, H', J.os, J.bare, J.base, J.hok, rv, hq⟩
    | next => obtain ⟨σ', H', J, hq⟩ := q; exact ⟨.non, H', J.os, J.bare, J.base, J.hok, rfl, hq⟩
    | brk => obtain ⟨_, _, _, hq⟩ := q; exact hq.elim
    | cont => obtain ⟨_, _, _, hq⟩ := q; exact hq.elim
end
section
variable {X : Cx} {pa : Addr} {oe : Obj} {cls : Value} {d : Option Addr}
theorem pe_callE {x : Str} {k : Nat} {f : Addr} {fd : FuncData} {ps : List Str} {sp : Addr → Value → Option Addr → Sp} {e : Expr} {es : List Expr} {q pos : Pos} {t : TA} (F : FnE X.prog X.w X.K X.mg X.base k f fd ps sp) (hr : L2H.RoomH k X.A) (gd : X.A.guards = some []) (hp : (pa, oe) ∈ X.pn) (hz : Zc cls d oe) (hf : ∃ fv, oe.data = .fields fv)
    (hg : Gl X x) (hm : X.mg x = some (.ref f)) (hk : PySem.W.keepIn X.K (.ref f) = true) (hb : L2.Binds X.K fd ps []) (ha : PA X (e :: es) t) (hdb : (x == ("__debug__" : Str)) = false := by decide)
    (he : starEach (e :: es) X.env = (false, eval e X.env) :: starEach es X.env := by rfl) (hpl : (backTo pos (starEach es X.env)).any (·.1) = false := by rfl) : PE X (.Call (.Name x q) (e :: es) [] pos) (tCall (sp pa cls d) [] E0 t) := by
  constructor
  intro pins s σ H Q I h
  refine wpAny_Call_Name_kw (ld_glob I hg hm ?_ hdb)
  refine PySem.W.callWith_K (h₀ := X.base) I.ok.mod.kin hk (thn (ha.run pos pins s σ H _ I h) fun us s1 ⟨vs, H1, I1, r, h1⟩ => ⟨I1.kIn, ?_⟩) he hpl
  have h1 : sp pa cls d vs H1 Q E0 := by
    have z : sp pa cls d (vs ++ []) H1 Q E0 := h1
    rwa [List.append_nil] at z
  have lu : us.length = ps.length := by rw [← r.length]; exact F.len _ _ _ _ _ _ _ h1
  have bd := hb s1 us I1.kIn (by rw [List.append_nil]; exact lu)
  rw [List.append_nil] at bd
  obtain ⟨p1, p2, p3, p4, p5⟩ := I1.pin (pa, oe) (List.mem_append_left _ hp)
  have pin : L2H.PinOk X.stack H1 s1 (pa, oe) := ⟨p1, p2, fun z => (List.mem_cons.mp (I1.stkSub pa z)).elim p3 p4, p5⟩
  refine wpAny_call (codeAny_mono (F.run X.A X.stack s1 H1 ⟨us, []⟩ us vs Q pa oe cls d hr gd pin hz hf I1.env0 bd r h1) fun res s' hq => ?_)
  cases res with
  | error z => exact (show False from hq).elim
  | ok fl =>
    cases fl with
    | ret u => exact I1.after hq
    | next => exact (show False from hq).elim
    | brk => exact (show False from hq).elim
    | cont => exact (show False from hq).elim
/-- what is asked of an own error class -/
structure ExF (K : PySem.W.Frag) (C : Addr) : Prop where
  cl : (PySem.W.clsIn K C).isSome = true
  ga : PySem.W.findIn K (.ref C) "__getattribute__" = some (some (.builtin "BaseException.__getattribute__"))
  gg : PySem.W.findIn K (.ref C) "__getattr__" = some none
  exC : PySem.W.subIn K (.ref C) (.type "BaseException") = some true
  ca : PySem.W.findIn K (.ref C) "__class__" = some (some (.builtin "object.__class__"))
  hm : PySem.W.mroIn K C (.type "object") = some true
  hd : PySem.W.hasDictIn K C = true
  hn : PySem.W.specialIn K (.builtin "object.__class__") "__get__" = some (some (.builtin "getset_descriptor.__get__"))
  tk : PySem.W.takesIn K (.builtin "object.__class__") = some true
theorem inst_of {pins : List (Addr × Obj)} {σ : L2.St} {H : Hp} {s : Shared} {C dd : Addr} {fs : List (Str × V)} (I : Inv X pins σ H s) (hp : (pa, oe) ∈ X.pn) (hz : Zc (.ref C) (some dd) oe) (hf : ∃ fv, oe.data = .fields fv) (hd : H dd = some (.xd fs)) :
    ∃ (od : Obj) (mA : Str → Option Value), PySem.W.InstAt s.heap pa oe C (some od) ∧ (∀ f, RelO (fs.lookup f) (mA f)) ∧ ∀ n, PySem.W.lookIn n od = some (mA n) := by
  obtain ⟨p1, _⟩ := I.pin (pa, oe) (List.mem_append_left _ hp)
  obtain ⟨fv, hfv⟩ := hf
  have ob : ObjOk X.prog X.w H s.heap dd (.xd fs) := I.hok dd _ hd
  obtain ⟨mA, hns, hr⟩ := ob
  obtain ⟨od, ho, hl⟩ := lookIn_ns hns
  exact ⟨od, mA, ⟨p1, hz.1, by unfold PySem.W.notCls; rw [hfv] <;> rfl, by rw [hz.2]; exact ho⟩, hr, hl⟩
/-- isinstance(e, C) of the caught error -/
def rIsE (K : PySem.W.Frag) (pa : Addr) (cls : Value) (d : Option Addr) : List V → Hp → VK → Prop := fun xs H Q => ∃ (C dd : Addr) (c : V) (u : Value) (b : Bool) (fs : List (Str × V)), cls = .ref C ∧ d = some dd ∧ ExF K C ∧ xs = [.ref pa, c] ∧ ClsV c u ∧ H dd = some (.xd fs) ∧ PySem.W.kitOne K (.ref C) u = some b ∧ Q (.bl b) H
theorem call_isE (hp : (pa, oe) ∈ X.pn) (hz : Zc cls d oe) (hf : ∃ fv, oe.data = .fields fv) : CallR X (.builtin "isinstance") (rIsE X.K pa cls d) := by
  intro pins s σ H xs us Q I r h
  obtain ⟨C, dd, c, u, b, fs, rfl, rfl, T, rfl, k, hd, e, q⟩ := h
  obtain ⟨u1, u2, rfl, r1, r2⟩ := vals2 r
  have e2 := k.eq r2
  subst e2
  obtain rfl : u1 = Value.ref pa := r1
  obtain ⟨od, mA, J, _, _⟩ := inst_of I hp hz hf hd
  exact PySem.W.kia_one (PySem.W.kitx_exc (ox := oe) (od := some od) T.cl T.ga T.gg T.exC T.ca T.hn T.tk T.hm) I.kIn J e (fun z => by cases z) fun tk => ⟨.bl b, H, I.tok tk, rfl, q⟩
/-- e.f -/
def tEx (K : PySem.W.Frag) (pa : Addr) (cls : Value) (d : Option Addr) (f : Str) (te : TE) : TE := fun σ H Q => te σ H fun x H1 => x = .ref pa ∧ ∃ (C dd : Addr) (fs : List (Str × V)) (v : V), cls = .ref C ∧ d = some dd ∧ ExF K C ∧ PySem.W.findIn K (.ref C) f = some none ∧ H1 dd = some (.xd fs) ∧ fs.lookup f = some v ∧ Q v H1
theorem pe_ex {e : Expr} {te : TE} {pos : Pos} {n : Str} (hp : (pa, oe) ∈ X.pn) (hz : Zc cls d oe) (hf : ∃ fv, oe.data = .fields fv) (he : PE X e te)
    (hb : attributeBase e n X.env (eval e X.env) = eval e X.env := by rfl) : PE X (.Attribute e n pos) (tEx X.K pa cls d n te) := by
  constructor
  intro pins s σ H Q I h
  refine attr_of hb (thn (he.run pins s σ H _ I h) fun u s1 hh => ?_)
  obtain ⟨x, H1, I1, rx, ex, C, dd, fs, v, rfl, rfl, T, hno, ea, l, q⟩ := hh
  subst ex
  obtain rfl : u = Value.ref pa := rx
  obtain ⟨od, mA, J, hr, hl⟩ := inst_of I1 hp hz hf ea
  obtain ⟨u, hu, ru⟩ := RelO.some_of (v := v) (o := mA n) (by rw [← l]; exact hr n)
  exact HandSPX.exc_get I1.kIn J T.ga T.gg T.exC (PySem.W.findObj_own T.hd hno rfl (by rw [hl, hu])) (handed_of ru) ⟨v, H1, I1.tok _, ru, q⟩
/-- repr -/
structure Shw (d : PyData) : Prop where
  sh : d.showable = true
  dp : d.depth ≤ 60
  nd : d.hasDict = false
  sz : d.shown.length ≤ sizeLine
def rRepr (K : PySem.W.Frag) : List V → Hp → VK → Prop := fun xs H Q => ∃ (x : V) (d : PyData), xs = [x] ∧ Dp K H x d ∧ Shw d ∧ Q (.str d.shown) H
theorem call_reprD (gd : X.A.guards = some []) (hu : X.A.units + 64 < cLine) : CallR X (.builtin "repr") (rRepr X.K) := by
  intro pins s σ H xs us Q I r h
  obtain ⟨x, d, rfl, hd, sh, q⟩ := h
  obtain ⟨u, rfl, ru⟩ := vals1 r
  have dep := sh.dp
  have road : ∀ (a : Addr), u = .ref a → wpAny (model X.prog X.w) X.A (call (.builtin "repr") [u]) (EP X pins σ Q) X.xe s := fun a e => by
    subst e
    obtain ⟨as, rd⟩ := Dp.reads I d x _ hd ru
    refine repr_of_reads' rd sh.sh (fun z => by rw [sh.nd] at z; cases z) gd (by omega) (fun _ _ z => z) (fun h' u' tk keep => ?_) sh.sz
    exact ⟨.str d.shown, H, I.kept (t' := tk) keep, ⟨_, rfl⟩, q⟩
  cases hd with
  | non => cases ru; exact PySem.P.repr_of_none ⟨.str _, H, I.tok _, ⟨_, rfl⟩, q⟩
  | bl b => cases ru; exact PySem.P.repr_of_bool ⟨.str _, H, I.tok _, ⟨_, rfl⟩, q⟩
  | int i =>
    obtain ⟨t, rfl⟩ := ru
    have sm : i.natAbs.log2 < 1920 := of_decide_eq_true sh.sh
    exact PySem.P.repr_of_int sm ⟨.str _, H, I.tok _, ⟨_, rfl⟩, q⟩
  | str y => obtain ⟨t, rfl⟩ := ru; exact PySem.P.repr_of_str ⟨.str _, H, I.tok _, ⟨_, rfl⟩, q⟩ sh.sz
  | lst _ _ => cases ru; exact road _ rfl
  | tup _ _ => cases ru; exact road _ rfl
end
/-! ### their laws -/
section
variable {c : Cd} {Γ : List Ent} {te : TE} {tA : TA}
theorem n_isE {pa C dd : Addr} {fs : List (Str × PyData)} {v : V} {u : Value} {b : Bool} (T : ExF c.K C) (k : ClsV v u) (e : PySem.W.kitOne c.K (.ref C) u = some b) : OpN c (rIsE c.K pa (.ref C) (some dd)) [.ex pa dd fs, .raw v] (B b) := ⟨fun xs H H' _ s a0 Q' q => by
  obtain ⟨x, y, rfl, a, b'⟩ := all2 a0
  obtain ⟨rfl, vs, hd, _⟩ := a.2
  have hy : y = v := b'.2
  subst hy
  exact ⟨C, dd, _, u, b, vs, rfl, rfl, T, rfl, k, hd, e, q _ H' (Stp.refl _ _) (res_im.2 (.bl _))⟩⟩
theorem look_of {K : PySem.W.Frag} {H : Hp} {f : Str} {d : PyData} : ∀ {fs : List (Str × PyData)} {vs : List (Str × V)}, vs.map (·.1) = fs.map (·.1) → Ims K H (vs.map (·.2)) (fs.map (·.2)) → fs.lookup f = some d → ∃ v, vs.lookup f = some v ∧ Im K H v d
  | [], _, _, _, h => by cases h
  | (g, d') :: fs, [], e, _, _ => by cases e
  | (g, d') :: fs, (g', v') :: vs, e, m, h => by
    have e1 : g' = g := by have := congrArg List.head? e; simpa using this
    have e2 : vs.map (·.1) = fs.map (·.1) := by have := congrArg List.tail e; simpa using this
    subst e1
    cases m with
    | cons m1 m2 =>
      by_cases z : f = g'
      · subst z
        simp [List.lookup] at h
        subst h
        exact ⟨v', by simp [List.lookup], m1⟩
      · have zb : (f == g') = false := by simpa using z
        simp only [List.lookup, zb] at h ⊢
        exact look_of e2 m2 h
theorem v_exf {pa C dd : Addr} {fs : List (Str × PyData)} {f : Str} {d : PyData} (T : ExF c.K C) (hno : PySem.W.findIn c.K (.ref C) f = some none) (h : VE c te Γ (.ex pa dd fs)) (l : fs.lookup f = some d) : VE c (tEx c.K pa (.ref C) (some dd) f te) Γ (.im d) := fun H0 F σ H ev x Q' q => by
  refine h H0 F σ H ev x _ fun r v H1 e s1 r1 => ?_
  subst e
  obtain ⟨rfl, vs, hd, k, m⟩ := r1.2
  obtain ⟨v, hv, mv⟩ := look_of k m l
  exact ⟨rfl, C, dd, vs, v, rfl, rfl, T, hno, hd, hv, q _ v H1 rfl s1 (res_im.2 mv)⟩
theorem n_repr {d : PyData} (sh : Shw d) : OpN c (rRepr c.K) [.im d] (.im (.str d.shown)) := ⟨fun xs H H' _ s a0 Q' q => by
  obtain ⟨v, rfl, a⟩ := all1 a0
  exact ⟨v, d, rfl, Im.dp a.2, sh, q _ H' (Stp.refl _ _) (res_im.2 (.str _))⟩⟩
theorem n_reprL {ds : List PyData} (sh : Shw (.list ds)) : OpN c (rRepr c.K) [.ro ds] (.im (.str (PyData.list ds).shown)) := ⟨fun xs H H' _ s a0 Q' q => by
  obtain ⟨v, rfl, a⟩ := all1 a0
  obtain ⟨a, vs, rfl, sq, m⟩ := res_ro.1 a
  exact ⟨_, _, rfl, .lst sq m.dp, sh, q _ H' (Stp.refl _ _) (res_im.2 (.str _))⟩⟩
end
section
variable {c : Cd} {Γ : List Ent} {tb : TE}
/-- found + others, found an own list at its name -/
theorem v_catV {i : Nat} {ds es : List PyData} (hz : ds.length + es.length ≤ 1000000) (hb : VE c tb Γ (.ls es)) (hg : Γ[i]? = some (.ls ds) := by rfl) : VE c (tOp rCat (tVar i) tb) Γ (.ls (ds ++ es)) := fun H0 F σ H ev x Q' q => by
  obtain ⟨s, hs, k1, _⟩ := ev.ent i _ hg
  obtain ⟨a, o, e, _, n, f, g, vs, rfl, m⟩ := k1 _ rfl
  subst e
  refine ⟨_, hs, hb H0 F σ H ev x _ fun r y H1 e s1 r1 => ?_⟩
  subst e
  have ev1 := ev.step s1
  obtain ⟨b, ws, rfl, nb, gb, mb⟩ := res_ls.1 r1
  have ga : H1 a = some (.lst vs) := s1.keep a _ (ev.pok0.ne0 n) g
  have ma := m.tupS (s1.tup ev.pok)
  refine ⟨_, _, _, _, rfl, rfl, ga, gb, by rw [ma.length, mb.length, sizeLine_eq]; omega, fun p hp' => ?_⟩
  exact q _ _ _ rfl (s1.trans (Stp.new hp')) (res_ls.2 ⟨p, _, rfl, s1.back ev.pok hp', upd_same, (ma.append mb).tupS ((Stp.new hp').tup ev1.pok)⟩)
end
/-! ### contracts -/
structure ConE (α : Type) where
  cl : α → Addr
  fs : α → List (Str × PyData)
  pre : α → Prop
  post : α → Ent → Prop
def spE {α : Type} (K : PySem.W.Frag) (C : ConE α) : Addr → Value → Option Addr → Sp := fun pa cls d vs H Q _ => ∃ (p : Option Addr) (a : α) (dd : Addr), cls = .ref (C.cl a) ∧ d = some dd ∧ POk p H ∧ vs = [.ref pa] ∧ ExAt K H dd (C.fs a) ∧ C.pre a ∧
  ∀ r v H', C.post a r → Stp p H H' → ResOk K p H H' r v → Q v H'
section
variable {P : Program} {w : World} {K : PySem.W.Frag} {mg : Str → Option Value} {base : Heap}
/-- a def of the caught error keeps its contract -/
theorem fn_okC {α : Type} {x qual : Str} {st : Stmt} {f : Addr} {fd : FuncData} {N ps : List Str} {k : Nat} (C : ConE α) (F : Fun K x qual st f fd) (S : FnScope N ps (defScope st)) (h1 : ps.length = 1)
    (hb : ∀ (cdv : Value) (A : Around) (outer : List Env) (s : Shared) (H : Hp) (pa : Addr) (oe : Obj) (dd : Addr) (p : Option Addr) (a : α), A.guards = some [] → L2H.RoomH k (A.deeper (envOfC qual (defScope st) s.heap.objs.size f cdv)) → Zc (.ref (C.cl a)) (some dd) oe → (∃ fv, oe.data = .fields fv) → C.pre a →
      ∃ t, PSs (L2H.cxH CX0 P w K mg base N qual (defScope st) f cdv A outer s H E0 (pa, oe)) (defBody st) t ∧ WS ⟨K, p, E0, fun _ => False⟩ t (.ex pa dd (C.fs a) :: List.replicate (N.length - 1) .no) { nx := fun _ => C.post a (.im .none), rt := C.post a }) : FnE P w K mg base (k + 1) f fd ps (spE K C) := by
  have hN : ps.length ≤ N.length := by have := congrArg List.length S.pre; rw [List.length_take] at this; omega
  refine fn_okE F S (fun a cls d vs H Q E h => ?_) fun cdv A outer s H vs Q pa oe cls d gd hr hz hf h => ?_
  · obtain ⟨p, a, dd, _, _, _, rfl, _⟩ := h
    rw [h1]; rfl
  · obtain ⟨p, a, dd, rfl, rfl, pk, rfl, ex, pre, post⟩ := h
    obtain ⟨t, h1', h2⟩ := hb cdv A outer s H pa oe dd p a gd hr hz hf pre
    refine ⟨t, h1', h2 H (fun _ => none) _ H ?_ (fun _ _ _ _ z => z.elim) _ ⟨fun Γ σ H' n e => ?_, fun r v H' hp s1 ro => post r v H' hp s1 ro, fun _ _ _ z => z.elim, fun _ _ _ z => z.elim⟩⟩
    · have ra : ResAll K p H H [.ex pa dd (C.fs a)] [.ref pa] := ⟨_, [], rfl, ⟨(fun φ z => by cases z), rfl, ex⟩, rfl, fun z => by cases z⟩
      exact ev_start (rs := [.ex pa dd (C.fs a)]) pk ra (by show 1 + (N.length - 1) ≤ N.length; omega)
    · exact post _ _ H' n e.stp (res_im.2 .non)
end
section
variable {c : Cd} {Γ : List Ent} {tA : TA} {z : Ent} {Q : Ent → Prop}
theorem w_callE {α : Type} {C : ConE α} {pa dd : Addr} (a : α) (h : VA c tA Γ [.ex pa dd (C.fs a)]) (pr : C.pre a) (qa : ∀ r, C.post a r → Q r) : WE c (tCall (spE c.K C pa (.ref (C.cl a)) (some dd)) [] E0 tA) Γ Q := fun H0 F σ H ev x Q' q => by
  refine h H0 F σ H ev x _ fun rs vs H1 e s1 r1 => ?_
  subst e
  obtain ⟨v, rfl, rv⟩ := all1 r1
  obtain ⟨rfl, ex⟩ := rv.2
  exact ⟨c.p, a, dd, rfl, rfl, ev.pok.step s1, rfl, ex, pr, fun r v H2 pr s2 r2 => q r v H2 (qa r pr) (s1.trans s2) (r2.back s1 ev.pok)⟩
theorem v_callE {α : Type} {C : ConE α} {pa dd : Addr} (a : α) (h : VA c tA Γ [.ex pa dd (C.fs a)]) (pr : C.pre a) (qa : ∀ r, C.post a r → r = z) : VE c (tCall (spE c.K C pa (.ref (C.cl a)) (some dd)) [] E0 tA) Γ z := w_callE a h pr qa
end
/-! ## the law itself: its heap is read anew behind each statement -/
def Ent.flat : Ent → Bool
  | .no => true
  | .im _ => true
  | .ro _ => true
  | .pen => true
  | _ => false
def Flat (Γ : List Ent) : Prop := ∀ (i : Nat) (e : Ent), Γ[i]? = some e → e.flat = true
theorem flat_obj {K : PySem.W.Frag} {e : Ent} (h : e.flat = true) : e.obj K = none := by
  cases e <;> first | rfl | cases h
theorem flat_of {Γ : List Ent} (h : Γ.all Ent.flat = true) : Flat Γ := fun i e g => List.all_eq_true.mp h e (List.mem_of_getElem? g)
section
variable {K : PySem.W.Frag} {p : Option Addr} {H0 F H H1 : Hp} {Γ : List Ent} {σ : L2.St} {T : List (Addr × Str)}
theorem EntOk.root {e : Ent} {s : Option V} (fl : e.flat = true) (x : EntOk K p H0 F H e s) : EntOk K p H (fun _ => none) H e s := by
  refine ⟨(fun φ z => by rw [flat_obj fl] at z; cases z), ?_⟩
  have x := x.2
  cases e with
  | no => trivial
  | im d => exact x
  | ro ds => obtain ⟨a, vs, e, h0, h1, m⟩ := x; exact ⟨a, vs, e, h1, h1, m⟩
  | pen => exact x
  | _ => cases fl
theorem Ev.root (x : Ev K p H0 F Γ σ H) (fl : Flat Γ) : Ev K p H (fun _ => none) Γ σ H := by
  refine ⟨fun i e g => ?_, fun i j a d e _ gi _ hd _ _ _ => ?_, Stp.refl _ _, x.pok, (fun _ _ z => by cases z), fun _ _ => rfl⟩
  · obtain ⟨s, hs, k⟩ := x.ent i e g
    exact ⟨s, hs, k.root (fl i e g)⟩
  · have z := fl i d gi
    rw [flat_obj z] at hd; cases hd
theorem extN_tup (e : LamX.ExtN H H1) : Tup H H1 := ⟨fun a xs h => e a _ h (fun _ z => by cases z), fun a o u h => e a _ h (fun _ z => by cases z)⟩
theorem extN_sqL {a : Addr} {vs : List V} (e : LamX.ExtN H H1) (h : SqL K H a vs) : SqL K H1 a vs := by
  rcases h with (h | ⟨o, h⟩) | h
  · exact .inl (.inl (e _ _ h (fun _ z => by cases z)))
  · exact .inl (.inr ⟨o, e _ _ h (fun _ z => by cases z)⟩)
  · exact .inr h
theorem extN_pok (e : LamX.ExtN H H1) (h : POk p H) : POk p H1 := fun q hq => by
  obtain ⟨l, ns, a, d, c, f, h1, h2, r⟩ := h q hq
  exact ⟨l, ns, a, d, c, f, e _ _ h1 (fun _ z => by cases z), e _ _ h2 (fun _ z => by cases z), r⟩
theorem Ev.ext (x : Ev K p H (fun _ => none) Γ σ H) (e : LamX.ExtN H H1) (fl : Flat Γ) : Ev K p H1 (fun _ => none) Γ σ H1 := by
  refine ⟨fun i r g => ?_, fun i j a d r _ gi _ hd _ _ _ => ?_, Stp.refl _ _, extN_pok e x.pok, (fun _ _ z => by cases z), fun _ _ => rfl⟩
  · obtain ⟨s, hs, k⟩ := x.ent i r g
    have z := fl i r g
    refine ⟨s, hs, (fun φ y => by rw [flat_obj z] at y; cases y), ?_⟩
    have k := k.2
    cases r with
    | no => trivial
    | im d => obtain ⟨v, ev, m⟩ := k; exact ⟨v, ev, m.tupS (extN_tup e)⟩
    | ro ds => obtain ⟨a, vs, ea, h0, h1, m⟩ := k; exact ⟨a, vs, ea, extN_sqL e h1, extN_sqL e h1, m.tupS (extN_tup e)⟩
    | pen => exact k
    | _ => cases z
  · have z := fl i d gi
    rw [flat_obj z] at hd; cases hd
theorem tabs_step (t : Stp p H H1) (pk : POk p H) (h : LamX.Tabs T H) : LamX.Tabs T H1 := fun q hq => by
  have ne : ∀ (a : Addr) (o : HO), (∀ kvs, o ≠ .dK kvs) → H a = some o → p ≠ some a := fun a o n e z => by
    obtain ⟨_, _, _, _, _, _, g, _⟩ := pk a z
    rw [e] at g
    exact n _ (Option.some.inj g)
  obtain ⟨ps, h1, h2, h3⟩ := h q hq
  refine ⟨ps, t.keep _ _ (ne _ _ (fun _ z => by cases z) h1) h1, h2, fun pos cv hc => ?_⟩
  obtain ⟨c, e1, e2⟩ := h3 pos cv hc
  exact ⟨c, e1, t.keep _ _ (ne _ _ (fun _ z => by unfold LamX.CodeO at z; cases z) e2) e2⟩
/-- every way out of the law is True -/
def WL (K : PySem.W.Frag) (p : Option Addr) (T : List (Addr × Str)) (t : TS) (Γ : List Ent) : Prop :=
  ∀ σ H, Ev K p H (fun _ => none) Γ σ H → LamX.Tabs T H → ∀ D : Ends, (∀ H', D.rt (.bl true) H') → t D σ H
abbrev c0 (K : PySem.W.Frag) (p : Option Addr) : Cd := ⟨K, p, E0, fun _ => False⟩
theorem xok0 : (c0 K p).XOk H := fun _ _ _ _ h => h.elim
variable {t u : TS}
theorem wl_ws (h : WS (c0 K p) t Γ { nx := fun _ => False, rt := fun r => r = B true }) : WL K p T t Γ := fun σ H ev tb D hD =>
  h H _ σ H ev xok0 D ⟨fun _ _ _ z => z.elim, fun r v H' e _ ro => by subst e; rw [Im.blv ro.2]; exact hD H', fun _ _ _ z => z.elim, fun _ _ _ z => z.elim⟩
theorem wl_seq (h : WS (c0 K p) t Γ { nx := fun Γ' => Flat Γ' ∧ WL K p T u Γ', rt := fun r => r = B true }) : WL K p T (tSeq t u) Γ := fun σ H ev tb D hD =>
  h H _ σ H ev xok0 { D with nx := u D } ⟨fun Γ' σ' H' ⟨fl, wl⟩ e => wl σ' H' (e.root fl) (tabs_step e.stp ev.pok tb) D hD, fun r v H' e _ ro => by subst e; rw [Im.blv ro.2]; exact hD H', fun _ _ _ z => z.elim, fun _ _ _ z => z.elim⟩
/-- the pen is made -/
theorem wl_pen {te : TE} {i : Nat} (fl : Flat Γ) (hi : i < Γ.length) (h : VE (c0 K none) te Γ .pn) (k : ∀ q, WL K (some q) T u (Γ.set i .pen)) (np : ∀ j : Nat, Γ[j]? ≠ some Ent.pen) : WL K none T (tSeq (tAsg te (gName i)) u) Γ := fun σ H ev tb D hD => by
  refine h H _ σ H ev xok0 _ fun r v H1 e s1 r1 => ?_
  subst e
  obtain ⟨q, rfl, pk⟩ := r1.2
  have ev1 := ev.step s1
  refine k q (σ.set i (some (.ref q))) H1 ?_ (tabs_step s1 ev.pok tb) D hD
  have hs : i < σ.length := by
    obtain ⟨s, e, _⟩ := ev.ent i _ (List.getElem?_eq_getElem hi)
    exact (List.getElem?_eq_some_iff.mp e).1
  have flat' : ∀ (j : Nat) (e : Ent), (Γ.set i .pen)[j]? = some e → e.flat = true := fun j e g => by
    by_cases hj : i = j
    · subst hj; rw [List.getElem?_set_self hi] at g; cases g; rfl
    · rw [List.getElem?_set_ne hj] at g; exact fl j e g
  refine ⟨fun j e g => ?_, fun i' j' a d e _ gi _ hd _ _ _ => ?_, Stp.refl _ _, fun q' e => by cases e; exact pk, (fun _ _ z => by cases z), fun _ _ => rfl⟩
  · by_cases hj : i = j
    · subst hj
      rw [List.getElem?_set_self hi] at g
      cases g
      exact ⟨_, List.getElem?_set_self hs, (fun φ z => by cases z), q, rfl, rfl⟩
    · rw [List.getElem?_set_ne hj] at g
      obtain ⟨s, e1, k1⟩ := ev1.ent j e g
      refine ⟨s, by rw [List.getElem?_set_ne hj]; exact e1, ?_⟩
      have z := fl j e g
      have k2 := k1.root z
      refine ⟨k2.1, ?_⟩
      have k2 := k2.2
      cases e with
      | pen => exact absurd g (np j)
      | no => trivial
      | im d => exact k2
      | ro d => exact k2
      | _ => cases z
  · have z := flat' i' d gi
    rw [flat_obj z] at hd; cases hd
theorem takes_len {X : Cx} {W : WX} (t : Takes X W) : Takes X (fun cls d σ H => σ.length = X.N.length → W cls d σ H) := fun u s' ⟨a, B, sI, pins, σ, H, cls, d, e, I, nb, up, sky, na, os, ag, w⟩ =>
  t u s' ⟨a, B, sI, pins, σ, H, cls, d, e, I, nb, up, sky, na, os, ag, w I.len⟩
theorem WS.run {c : Cd} {P : Ps} {D : Ends} (h : WS c t Γ P) (ev : Ev c.K c.p H0 F Γ σ H) (x : c.XOk H0) (d : PsOk c H0 F P D) : t D σ H := h H0 F σ H ev x D d
/-- what _law_fault makes of the lambda's reading -/
def EFault {α : Type} (K : PySem.W.Frag) (C : ConE α) (kd : α → PyData) (Q : VK) : XK := fun cls d H' => ∃ (p : Option Addr) (a : α) (dd : Addr), cls = .ref (C.cl a) ∧ d = some dd ∧ POk p H' ∧ ExAt K H' dd (C.fs a) ∧ C.pre a ∧ ∀ v H'', Stp p H' H'' → Im K H'' v (kd a) → Q v H''
def TFault {α : Type} (K : PySem.W.Frag) (C : ConE α) (kd : α → PyData) : (XK → Hp → VK → Prop) → Hp → VK → Prop := fun tl H Q => ∀ Qn : VK, (∀ v H', Q .non H' → Qn v H') → tl (EFault K C kd Q) H Qn
theorem eqv_same {d : PyData} (h : SeqAt.shaped d = true) : PyData.eqv d d = true := by
  have := SeqAt.canLay_of_shaped h
  exact SeqAt.eqv_refl d this
theorem wl_fault {α : Type} {C : ConE α} {kd : α → PyData} {tl : XK → TE} {td : TE} (a : α) (fl : Flat Γ) (hb : ∀ E, WE ⟨K, p, E, fun e => e = (C.cl a, C.fs a)⟩ (tl E) Γ (fun _ => False)) (pre : C.pre a)
    (hd : VE (c0 K p) td Γ (.im (kd a))) (sh : SeqAt.shaped (kd a) = true) (hn : WL K p T u Γ) : WL K p T (tSeq (tIfS (tTest (tOp (rNeD K) (LamX.tLam T (TFault K C kd) tl) td)) (tRet (tC (.bl false))) tNext) u) Γ := fun σ H ev tb D hD => by
  refine ⟨tb, fun H1 ext tb1 Qn _ => ?_⟩
  have ev1 := ev.ext ext fl
  refine hb _ H1 _ σ H1 ev1 ?_ _ fun r v H' z => z.elim
  rintro e cls d H2 rfl st ⟨rfl, dd, fs, rfl, hdd, hk, hm⟩
  have ev2 := ev1.step st
  refine ⟨p, a, dd, rfl, rfl, ev2.pok, ⟨fs, hdd, hk, hm⟩, pre, fun v H3 s3 mv => ?_⟩
  have ev3 := ev2.step s3
  refine hd H1 _ σ H3 ev3 xok0 _ fun r y H4 e s4 r4 => ?_
  subst e
  have ev4 := ev3.step s4
  refine ⟨kd a, kd a, Im.dp (mv.tupS (s4.tup ev3.pok)), Im.dp r4.2, sh, sh, ?_⟩
  refine ⟨_, rfl, ?_⟩
  rw [eqv_same sh]
  show tNext _ _ _
  exact hn σ H4 (ev4.root fl) (tabs_step ev4.stp ev1.pok tb1) D hD
end
end DL

namespace DL
open PySem PySem.Spec PyProof.Rows L2
/-! ## the end: the law is run once, from the caller -/
/-- what is tracked at the law's entry: the empty tables ts and, where lone holds, the script at a -/
def HpL (ts : List Addr) (lone : Bool) (a : Addr) (scr : HO) : Hp := fun b => if b ∈ ts then some (.tbl #[]) else if lone = true ∧ b = a then some scr else none
theorem HpL.tb {ts : List Addr} {lone : Bool} {a b : Addr} {scr : HO} (h : b ∈ ts) : HpL ts lone a scr b = some (.tbl #[]) := if_pos h
theorem HpL.inv {ts : List Addr} {lone : Bool} {a b : Addr} {scr u : HO} (h : HpL ts lone a scr b = some u) : (b ∈ ts ∧ u = .tbl #[]) ∨ (b ∉ ts ∧ lone = true ∧ b = a ∧ u = scr) := by
  unfold HpL at h
  split at h
  · rename_i q; exact .inl ⟨q, (Option.some.inj h).symm⟩
  · rename_i q
    split at h
    · rename_i z; exact .inr ⟨q, z.1, z.2, (Option.some.inj h).symm⟩
    · cases h
/-- the law's own run -/
structure LawRun (P : Program) (w : World) (K : PySem.W.Frag) (mg : Str → Option Value) (cs : List (Addr × Addr)) (fa a : Addr) (ns : List Int) (s : Shared) : Prop where
  go : ∀ (base : Heap) (H : Hp), K.In base → base.Ns mainGlobals mg → (∀ q ∈ cs, LamX.TabB base mg q.1 q.2) → (∀ q ∈ cs, H q.2 = some (.tbl #[])) → SqL K H a (ns.map V.int) → Env0 P w K mg base callerA [] s H →
    codeAny (model P w) callerA (.call (.ref fa) ⟨[.ref a], []⟩) (CR CX0 [] P w H s (fun v _ => v = .bl true) E0) s
theorem law_goes {P : Program} {w : World} {K : PySem.W.Frag} {mg mb : Str → Option Value} {fa a : Addr} {cs : List (Addr × Addr)} {s : Shared} {vs : List Value} {ns : List Int}
    (inK : K.In s.heap) (glob : s.heap.Ns mainGlobals mg) (bltn : s.heap.Ns builtinsNs mb) (bltn2 : ∀ x : Str, x ≠ "__name__" → mb x = bootBuiltins x) (nolim : s.heap.NoLimit) (nogen : s.gens = #[])
    (tabs : ∀ q ∈ cs, s.heap.get? q.2 = some { cls := .none, data := .fields #[] }) (tabsK : ∀ q ∈ cs, K.lookup q.2 = none) (heads : ∀ q ∈ cs, PySem.W.CodeHd s.heap q.1 q.2)
    (bmod : ∃ (bm : Addr) (ob : Obj), mg "__builtins__" = some (.ref bm) ∧ bm ≠ builtinsNs ∧ s.heap.get? bm = some ob ∧ ob.cls = .type "module" ∧ ob.dict = some builtinsNs ∧ ob.data = .plain)
    (scr : s.heap.get? a = some { cls := .type "list", data := .seq vs.toArray }) (hints : IntsAre vs ns) (len : ns.length ≤ sizeLine) (F : LawRun P w K mg cs fa a ns s) :
    codeAny (model P w) callerA (.call (.ref fa) ⟨[.ref a], []⟩) (fun r s' => r = .ok (.ret (.bool true)) ∧ OldK s.heap s'.heap ∧ s'.os = s.os ∧ AllBare s'.gens) s := by
  have vals := vals_ints hints
  have lenV := hints.length
  let ts : List Addr := cs.map (·.2)
  have tsT : ∀ b, b ∈ ts → s.heap.get? b = some { cls := .none, data := .fields #[] } := fun b hb => by
    obtain ⟨q, hq, e⟩ := List.mem_map.mp hb
    subst e
    exact tabs q hq
  have aT : a ∉ ts := fun z => by
    have e := (tsT a z).symm.trans scr
    have e := congrArg (fun o : Option Obj => match o with | some ⟨_, _, .fields _, _⟩ => true | _ => false) e
    cases e
  let so : HO := .frz { cls := .type "list", data := .seq vs.toArray } (.lst (ns.map V.int))
  let lone : Bool := (K.lookup a).isNone
  let H : Hp := HpL ts lone a so
  have lst : SqL K H a (ns.map V.int) := by
    cases e : K.lookup a with
    | none =>
      refine .inl (.inr ⟨{ cls := .type "list", data := .seq vs.toArray }, ?_⟩)
      show HpL ts lone a so a = some so
      unfold HpL
      rw [if_neg aT, if_pos ⟨(by show (K.lookup a).isNone = true; rw [e]; rfl), rfl⟩]
    | some o =>
      have z := inK a o e
      rw [scr] at z
      cases z
      exact .inr ⟨_, vs.toArray, _, e, rfl, rfl, rfl, (by rw [List.size_toArray, lenV]; exact len), (by simpa using vals)⟩
  have hok : HOk P w H s.heap := fun b u e => by
    rcases HpL.inv e with ⟨hb, hu⟩ | ⟨_, _, hb, hu⟩
    · subst hu; exact tsT b hb
    · subst hb; subst hu
      exact ⟨scr, (by rw [List.length_map]; exact len), vs, _, vals, scr⟩
  -- what is no table and no script is not tracked
  have free : ∀ {b : Addr} {o : Obj}, s.heap.get? b = some o → (∀ f, o.data = .fields f → f ≠ #[]) → (b = a → lone = false) → H b = none := fun {b o} e h1 h2 => by
    cases q : H b with
    | none => rfl
    | some u =>
      rcases HpL.inv q with ⟨hb, _⟩ | ⟨_, hl, hb, _⟩
      · have z := (tsT b hb).symm.trans e
        cases z
        exact absurd rfl (h1 _ rfl)
      · rw [h2 hb] at hl; cases hl
  have notA : ∀ {b : Addr} {o : Obj}, s.heap.get? b = some o → (∀ us n, o.data ≠ .seq us n) → b = a → lone = false := fun {b o} e h z => by
    subst z
    rw [scr] at e
    cases e
    exact absurd rfl (h _ _)
  have keepNs : ∀ {b : Addr} {m : Str → Option Value}, s.heap.Ns b m → (hidT s.heap H).Ns b m := fun {b m} ⟨o, es, ep, e, d, r⟩ =>
    ⟨o, es, ep, hidT_get e (free e (fun f z => by rw [d] at z; cases z) (notA e fun us n z => by rw [d] at z; cases z)), d, r⟩
  have keepK : K.In (hidT s.heap H) := fun b o e => hidT_get (inK b o e) (by
    cases q : H b with
    | none => rfl
    | some u =>
      rcases HpL.inv q with ⟨hb, _⟩ | ⟨_, hl, hb, _⟩
      · obtain ⟨q', hq', e'⟩ := List.mem_map.mp hb
        have e' : q'.2 = b := e'
        rw [← e', tabsK q' hq'] at e
        cases e
      · subst hb
        have hl : (K.lookup b).isNone = true := hl
        rw [e] at hl
        cases hl)
  have mod : L2.Mod K mg (hidT s.heap H) := ⟨keepK, keepNs glob, ⟨mb, keepNs bltn, bltn2⟩, let ⟨mc, h1, h2⟩ := nolim; ⟨mc, keepNs h1, h2⟩⟩
  have tb : ∀ q ∈ cs, LamX.TabB (hidT s.heap H) mg q.1 q.2 := fun q hq => by
    refine ⟨?_, ?_, fun z => ?_⟩
    · obtain ⟨o, us, file, tf, flags, tg, inF, text, tt, e1, r1, r2, r3, more⟩ := heads q hq
      refine ⟨o, us, file, tf, flags, tg, inF, text, tt, hidT_get e1 (free e1 (fun f z z' => ?_) (notA e1 fun us n z => ?_)), r1, r2, r3, more⟩
      · rw [r2] at z
        cases z
        rw [z'] at r3
        simp at r3
      · rw [r2] at z
        cases z
    · obtain ⟨bm, ob, b1, b2, b3, b4, b5, b6⟩ := bmod
      refine ⟨bm, ob, b1, b2, fun z => ?_, fun z => ?_, hidT_get b3 (free b3 (fun f z => ?_) (notA b3 fun us n z => ?_)), b4, b5, b6⟩
      · obtain ⟨o, es, ep, e, hd, _⟩ := glob
        rw [z] at b3
        rw [b3] at e
        cases e
        rw [b6] at hd
        cases hd
      · rw [z, tabs q hq] at b3
        cases b3
        cases b6
      · rw [b6] at z; cases z
      · rw [b6] at z; cases z
    · obtain ⟨o, es, ep, e, hd, _⟩ := glob
      have z : mainGlobals = q.2 := z
      rw [z, tabs q hq] at e
      cases e
      cases hd
  have env : Env0 P w K mg (hidT s.heap H) callerA [] s H := ⟨rfl, mod, fun b o e => of_hidT e, Nat.le_of_eq (hidT_size _ _), trivial, (fun b hb => by cases hb), hok, .of_eq nogen⟩
  refine codeAny_mono (F.go _ H keepK (keepNs glob) tb (fun q hq => HpL.tb (List.mem_map.mpr ⟨q, hq, rfl⟩)) lst env) fun r s' h => ?_
  cases r with
  | error e => exact (show False from h).elim
  | ok fl =>
    cases fl with
    | next => exact (show False from h).elim
    | brk => exact (show False from h).elim
    | cont => exact (show False from h).elim
    | ret u =>
      obtain ⟨v, H', os, bare, un, hok', rv, hv⟩ := h
      have hv : v = .bl true := hv
      subst hv
      have ru : u = Value.bool true := rv
      subst ru
      -- all but the tables stands as it stood
      have still : ∀ b o, b ∉ ts → s.heap.get? b = some o → s'.heap.get? b = some o := fun b o nb e => by
        cases q : H b with
        | none => exact un.keep b o e q (fun z => by cases z) (fun z => by cases z)
        | some u =>
          rcases HpL.inv q with ⟨hb, _⟩ | ⟨_, _, hb, hu⟩
          · exact absurd hb nb
          · subst hb; subst hu
            obtain ⟨e1, _⟩ := hok b _ q
            obtain ⟨e2, _⟩ := hok' b _ (un.frzs b _ _ q)
            rw [e] at e1
            cases e1
            exact e2
      have more : ∀ q ∈ cs, ∃ us : Array Value, s'.heap.get? q.2 = some { cls := .none, data := .fields us } := fun q hq => by
        obtain ⟨us, z⟩ := un.tbls q.2 #[] (HpL.tb (List.mem_map.mpr ⟨q, hq, rfl⟩))
        exact ⟨_, hok' q.2 _ z⟩
      refine ⟨rfl, ⟨fun b o e => ?_, fun b o e => ?_⟩, os, bare⟩
      · by_cases hb : b ∈ ts
        · obtain ⟨q, hq, eb⟩ := List.mem_map.mp hb
          have eb : q.2 = b := eb
          subst eb
          obtain ⟨us, hus⟩ := more q hq
          have eo := (tabs q hq).symm.trans e
          cases eo
          exact .inr (.inl ⟨((heads q hq).tab (tabs q hq)).isCodeTable, rfl, #[], us, rfl, by rw [Array.empty_append]; exact hus⟩)
        · exact .inl (still b o hb e)
      · by_cases hb : b ∈ ts
        · obtain ⟨q, hq, eb⟩ := List.mem_map.mp hb
          have eb : q.2 = b := eb
          subst eb
          obtain ⟨us, hus⟩ := more q hq
          exact ⟨_, hus⟩
        · exact ⟨o, still b o hb e⟩
theorem walk_goes {l : PySem.W.OpenLaw} {n : Nat} {q : Program} {loose : List Str} {XP : (Str → Option Value) → Heap → Prop} {YP : World → Heap → Prop} {d : DefRec} {K : Params → PySem.W.Frag}
    (hn : l.most = some n) (hn2 : n ≤ sizeLine) (hdf : d.params.defaults = []) (hY : ∀ (w : World) (h : Heap), YP w h → (K w.params).In h)
    (F : ∀ (w : World) (mg : Str → Option Value) (fa : Addr) (h : Heap), YP w h → (K w.params).In h → h.Ns mainGlobals mg → mg d.name = some (.ref fa) →
      ∃ cs : List (Addr × Addr), (∀ q ∈ cs, h.get? q.2 = some { cls := .none, data := .fields #[] }) ∧ (∀ q ∈ cs, (K w.params).lookup q.2 = none) ∧ (∀ q ∈ cs, PySem.W.CodeHd h q.1 q.2) ∧
        ∀ (s : Shared) (a : Addr) (ns : List Int), ns.length ≤ n → (∀ z ∈ ns, Builtin.Int.intBits z ≤ 1048576) → LawRun l.prog w (K w.params) mg cs fa a ns s) :
    PySem.W.WalkO q loose XP YP l.row.toRowW d [] (fun f vs => PySem.call f vs) := by
  refine Att.attach_callB hn hdf fun w s₀ s mg mb fa o pm cd doc a vs ns G Y ho hd hcd hmg hobj hints hlen hbits hg => ?_
  have inK := hY w _ Y
  obtain ⟨cs, h1, h2, h3, h4⟩ := F w mg fa _ Y inK G.T.g hmg
  exact law_goes inK G.T.g G.T.b G.T.builtins G.T.nolimit hg h1 h2 h3 G.T.bmain hobj hints (Nat.le_trans hlen hn2) (h4 s a ns hlen hbits)
end DL

namespace DL
open PySem L2
section
variable {c : Cd} {ta tb tc : TE} {Γ : List Ent} {ra rb rc : Ent}
/-! ## more of values -/
theorem o_eqB {i j : Bool} : Op2 c rEq (B i) (B j) (B (decide (i = j))) := ⟨fun x y H H' _ s a b Q' q => by
  have a := Im.blv a.2
  have b := Im.blv b.2
  subst a b
  refine ⟨rfl, ?_⟩
  have := q _ H' (Stp.refl _ _) (res_im.2 (.bl (decide (i = j))))
  rw [show decide (V.bl i = V.bl j) = decide (i = j) by simp]
  exact this⟩
theorem o_neB {i j : Bool} : Op2 c rNe (B i) (B j) (B (!decide (i = j))) := ⟨fun x y H H' _ s a b Q' q => by
  have a := Im.blv a.2
  have b := Im.blv b.2
  subst a b
  refine ⟨rfl, ?_⟩
  have := q _ H' (Stp.refl _ _) (res_im.2 (.bl (!decide (i = j))))
  rw [show decide (V.bl i = V.bl j) = decide (i = j) by simp]
  exact this⟩
/-- a op b op' c -/
theorem v_chain {r r' : R2} {k1 k2 : Bool} (o1 : Op2 c r ra rb (B k1)) (o2 : k1 = true → Op2 c r' rb rc (B k2)) (ha : VE c ta Γ ra) (hb : VE c tb Γ rb) (hc : VE c tc Γ rc) : VE c (tChain r r' ta tb tc) Γ (B (k1 && k2)) := fun H0 F σ H ev x Q' q => by
  refine ha H0 F σ H ev x _ fun a va H1 e1 s1 r1 => ?_
  subst e1
  refine hb H0 F σ H1 (ev.step s1) x _ fun b vb H2 e2 s2 r2 => ?_
  subst e2
  have pk := ev.pok
  have pk1 := pk.step s1
  refine o1.run va vb H H2 pk (s1.trans s2) (r1.step s2 pk pk1) (r2.back s1 pk) _ fun z H3 s3 r3 => ?_
  have z1 := Im.blv r3.2
  subst z1
  refine ⟨k1, rfl, ?_⟩
  cases hk : k1 with
  | false => exact q _ _ H3 rfl ((s1.trans s2).trans s3) (res_im.2 (by rw [hk]; exact .bl false))
  | true =>
    have ev3 := ((ev.step s1).step s2).step s3
    refine hc H0 F σ H3 ev3 x _ fun cc vc H4 e4 s4 r4 => ?_
    subst e4
    have s34 := s3.trans s4
    refine (o2 hk).run vb vc H H4 pk (((s1.trans s2).trans s3).trans s4) ((r2.back s1 pk).step s34 pk (pk.step (s1.trans s2))) (r4.back ((s1.trans s2).trans s3) pk) _ fun y H5 s5 r5 => ?_
    exact q _ y H5 rfl ((((s1.trans s2).trans s3).trans s4).trans s5) (res_im.2 (by rw [hk]; exact r5.2))
theorem n_lenN {ds : List PyData} : OpN c (rLen c.K) [.ls ds] (I ds.length) := ⟨fun xs H H' _ s a0 Q' q => by
  obtain ⟨v, rfl, a⟩ := all1 a0
  obtain ⟨ad, vs, rfl, _, g, ms⟩ := res_ls.1 a
  refine ⟨_, _, rfl, .inl (.inl (.inl g)), ?_⟩
  rw [ms.length]
  exact q _ H' (Stp.refl _ _) (res_im.2 (.int _))⟩
end
end DL

namespace K54
open PySem PySem.Spec PyProof.Rows L2 DL
/-! ## the text by places -/
def top (i : Nat) : Stmt := PySem.Challenge.pw_fourbends_k54_whole_roots_by_primes.main.body.getD i (.Pass ⟨0, 0, 0, 0⟩)
abbrev s__law_pen : Stmt := top 28
abbrev s__law_draw : Stmt := top 29
abbrev s__law_prime_parts : Stmt := top 36
abbrev s__law_drawn_prime : Stmt := top 37
abbrev s__law_pick : Stmt := top 30
abbrev s_is_integer : Stmt := top 19
abbrev s_is_prime : Stmt := top 25
abbrev s_root_by : Stmt := top 26
abbrev s__law_more_kinds : Stmt := top 35
abbrev s__law_kinds : Stmt := top 34
abbrev s__law_fault : Stmt := top 33
abbrev s__law_is : Stmt := top 31
abbrev s__law_wide : Stmt := top 32
abbrev s_sign_by_two : Stmt := top 22
abbrev s_sign_in : Stmt := top 23
abbrev s_sign_by : Stmt := top 24
abbrev s_law : Stmt := top 38
abbrev i_BadNumber : Stmt := inClass (top 2) 0
abbrev i_BadRow : Stmt := inClass (top 3) 0
abbrev i_BadTable : Stmt := inClass (top 4) 0
abbrev i_BadQuadruple : Stmt := inClass (top 5) 0
abbrev i_BadWord : Stmt := inClass (top 6) 0
abbrev i_BadName : Stmt := inClass (top 7) 0
abbrev i_BadText : Stmt := inClass (top 8) 0
abbrev i_NoPlace : Stmt := inClass (top 9) 0
abbrev i_NoName : Stmt := inClass (top 10) 0
abbrev i_TakenName : Stmt := inClass (top 11) 0
abbrev i_Unlike : Stmt := inClass (top 12) 0
abbrev i_NotThere : Stmt := inClass (top 13) 0
abbrev i_TooMany : Stmt := inClass (top 14) 0
abbrev i_NotKept : Stmt := inClass (top 15) 0
theorem sc__law_pen : FnScope ["script", "fold", "cell"] ["script"] (defScope s__law_pen) := ⟨rfl, rfl, rfl, by decide +kernel, rfl, by decide +kernel, by decide +kernel⟩
theorem sc__law_draw : FnScope ["pen", "many", "cell", "digit", "blend"] ["pen", "many"] (defScope s__law_draw) := ⟨rfl, rfl, rfl, by decide +kernel, rfl, by decide +kernel, by decide +kernel⟩
theorem sc__law_prime_parts : FnScope ["number", "found", "prime"] ["number"] (defScope s__law_prime_parts) := ⟨rfl, rfl, rfl, by decide +kernel, rfl, by decide +kernel, by decide +kernel⟩
theorem sc__law_drawn_prime : FnScope ["pen", "most", "number"] ["pen", "most"] (defScope s__law_drawn_prime) := ⟨rfl, rfl, rfl, by decide +kernel, rfl, by decide +kernel, by decide +kernel⟩
theorem sc__law_pick : FnScope ["pen", "some"] ["pen", "some"] (defScope s__law_pick) := ⟨rfl, rfl, rfl, by decide +kernel, rfl, by decide +kernel, by decide +kernel⟩
theorem sc_is_integer : FnScope ["value"] ["value"] (defScope s_is_integer) := ⟨rfl, rfl, rfl, by decide +kernel, rfl, by decide +kernel, by decide +kernel⟩
theorem sc_is_prime : FnScope ["number", "k"] ["number"] (defScope s_is_prime) := ⟨rfl, rfl, rfl, by decide +kernel, rfl, by decide +kernel, by decide +kernel⟩
theorem sc_root_by : FnScope ["top", "prime", "x"] ["top", "prime"] (defScope s_root_by) := ⟨rfl, rfl, rfl, by decide +kernel, rfl, by decide +kernel, by decide +kernel⟩
theorem sc__law_more_kinds : FnScope ["e", "found"] ["e"] (defScope s__law_more_kinds) := ⟨rfl, rfl, rfl, by decide +kernel, rfl, by decide +kernel, by decide +kernel⟩
theorem sc__law_kinds : FnScope ["e", "found"] ["e"] (defScope s__law_kinds) := ⟨rfl, rfl, rfl, by decide +kernel, rfl, by decide +kernel, by decide +kernel⟩
theorem sc__law_fault : FnScope ["call", "found", "e"] ["call"] (defScope s__law_fault) := ⟨rfl, rfl, rfl, by decide +kernel, rfl, by decide +kernel, by decide +kernel⟩
theorem sc__law_is : FnScope ["told", "due", "at"] ["told", "due"] (defScope s__law_is) := ⟨rfl, rfl, rfl, by decide +kernel, rfl, by decide +kernel, by decide +kernel⟩
theorem sc__law_wide : FnScope ["pen", "figures", "found", "top", "lap"] ["pen", "figures"] (defScope s__law_wide) := ⟨rfl, rfl, rfl, by decide +kernel, rfl, by decide +kernel, by decide +kernel⟩
theorem sc_sign_by_two : FnScope ["top"] ["top"] (defScope s_sign_by_two) := ⟨rfl, rfl, rfl, by decide +kernel, rfl, by decide +kernel, by decide +kernel⟩
theorem sc_sign_in : FnScope ["top", "bottom", "sign"] ["top", "bottom"] (defScope s_sign_in) := ⟨rfl, rfl, rfl, by decide +kernel, rfl, by decide +kernel, by decide +kernel⟩
theorem sc_sign_by : FnScope ["top", "bottom"] ["top", "bottom"] (defScope s_sign_by) := ⟨rfl, rfl, rfl, by decide +kernel, rfl, by decide +kernel, by decide +kernel⟩
theorem sc_law : FnScope ["script", "pen", "lap", "prime", "top", "told", "due", "bad", "wrong", "x"] ["script"] (defScope s_law) := ⟨rfl, rfl, rfl, by decide +kernel, rfl, by decide +kernel, by decide +kernel⟩
theorem sci_BadNumber : FnScope ["self", "what", "number"] ["self", "what", "number"] (defScope i_BadNumber) := ⟨rfl, rfl, rfl, by decide +kernel, rfl, by decide +kernel, by decide +kernel⟩
theorem sci_BadRow : FnScope ["self", "what", "row"] ["self", "what", "row"] (defScope i_BadRow) := ⟨rfl, rfl, rfl, by decide +kernel, rfl, by decide +kernel, by decide +kernel⟩
theorem sci_BadTable : FnScope ["self", "what"] ["self", "what"] (defScope i_BadTable) := ⟨rfl, rfl, rfl, by decide +kernel, rfl, by decide +kernel, by decide +kernel⟩
theorem sci_BadQuadruple : FnScope ["self", "what"] ["self", "what"] (defScope i_BadQuadruple) := ⟨rfl, rfl, rfl, by decide +kernel, rfl, by decide +kernel, by decide +kernel⟩
theorem sci_BadWord : FnScope ["self", "what", "word"] ["self", "what", "word"] (defScope i_BadWord) := ⟨rfl, rfl, rfl, by decide +kernel, rfl, by decide +kernel, by decide +kernel⟩
theorem sci_BadName : FnScope ["self", "name"] ["self", "name"] (defScope i_BadName) := ⟨rfl, rfl, rfl, by decide +kernel, rfl, by decide +kernel, by decide +kernel⟩
theorem sci_BadText : FnScope ["self", "line", "word"] ["self", "line", "word"] (defScope i_BadText) := ⟨rfl, rfl, rfl, by decide +kernel, rfl, by decide +kernel, by decide +kernel⟩
theorem sci_NoPlace : FnScope ["self", "what", "index"] ["self", "what", "index"] (defScope i_NoPlace) := ⟨rfl, rfl, rfl, by decide +kernel, rfl, by decide +kernel, by decide +kernel⟩
theorem sci_NoName : FnScope ["self", "name"] ["self", "name"] (defScope i_NoName) := ⟨rfl, rfl, rfl, by decide +kernel, rfl, by decide +kernel, by decide +kernel⟩
theorem sci_TakenName : FnScope ["self", "name"] ["self", "name"] (defScope i_TakenName) := ⟨rfl, rfl, rfl, by decide +kernel, rfl, by decide +kernel, by decide +kernel⟩
theorem sci_Unlike : FnScope ["self", "what"] ["self", "what"] (defScope i_Unlike) := ⟨rfl, rfl, rfl, by decide +kernel, rfl, by decide +kernel, by decide +kernel⟩
theorem sci_NotThere : FnScope ["self", "paper"] ["self", "paper"] (defScope i_NotThere) := ⟨rfl, rfl, rfl, by decide +kernel, rfl, by decide +kernel, by decide +kernel⟩
theorem sci_TooMany : FnScope ["self", "what", "many", "limit"] ["self", "what", "many", "limit"] (defScope i_TooMany) := ⟨rfl, rfl, rfl, by decide +kernel, rfl, by decide +kernel, by decide +kernel⟩
theorem sci_NotKept : FnScope ["self", "promise", "witness"] ["self", "promise", "witness"] (defScope i_NotKept) := ⟨rfl, rfl, rfl, by decide +kernel, rfl, by decide +kernel, by decide +kernel⟩
/-- the addresses -/
structure Adr where
  a__law_pen : Addr
  a__law_draw : Addr
  a__law_prime_parts : Addr
  a__law_drawn_prime : Addr
  a__law_pick : Addr
  a_is_integer : Addr
  a_is_prime : Addr
  a_root_by : Addr
  a__law_more_kinds : Addr
  a__law_kinds : Addr
  a__law_fault : Addr
  a__law_is : Addr
  a__law_wide : Addr
  a_sign_by_two : Addr
  a_sign_in : Addr
  a_sign_by : Addr
  a_law : Addr
  d__law_pen : FuncData
  d__law_draw : FuncData
  d__law_prime_parts : FuncData
  d__law_drawn_prime : FuncData
  d__law_pick : FuncData
  d_is_integer : FuncData
  d_is_prime : FuncData
  d_root_by : FuncData
  d__law_more_kinds : FuncData
  d__law_kinds : FuncData
  d__law_fault : FuncData
  d__law_is : FuncData
  d__law_wide : FuncData
  d_sign_by_two : FuncData
  d_sign_in : FuncData
  d_sign_by : FuncData
  d_law : FuncData
  c_BendError : Addr
  c_BadNumber : Addr
  c_BadRow : Addr
  c_BadTable : Addr
  c_BadQuadruple : Addr
  c_BadWord : Addr
  c_BadName : Addr
  c_BadText : Addr
  c_NoPlace : Addr
  c_NoName : Addr
  c_TakenName : Addr
  c_Unlike : Addr
  c_NotThere : Addr
  c_TooMany : Addr
  c_NotKept : Addr
  c_NothingToUndo : Addr
  c_NothingToRedo : Addr
  ai_BadNumber : Addr
  di_BadNumber : FuncData
  ai_BadRow : Addr
  di_BadRow : FuncData
  ai_BadTable : Addr
  di_BadTable : FuncData
  ai_BadQuadruple : Addr
  di_BadQuadruple : FuncData
  ai_BadWord : Addr
  di_BadWord : FuncData
  ai_BadName : Addr
  di_BadName : FuncData
  ai_BadText : Addr
  di_BadText : FuncData
  ai_NoPlace : Addr
  di_NoPlace : FuncData
  ai_NoName : Addr
  di_NoName : FuncData
  ai_TakenName : Addr
  di_TakenName : FuncData
  ai_Unlike : Addr
  di_Unlike : FuncData
  ai_NotThere : Addr
  di_NotThere : FuncData
  ai_TooMany : Addr
  di_TooMany : FuncData
  ai_NotKept : Addr
  di_NotKept : FuncData
  t_MOST_PRIME : Tok
/-- what the top has written -/
structure Txt (K : PySem.W.Frag) (mg : Str → Option Value) (A : Adr) : Prop where
  F__law_pen : Fun K "_law_pen" "_law_pen" s__law_pen A.a__law_pen A.d__law_pen
  g__law_pen : mg "_law_pen" = some (.ref A.a__law_pen)
  k__law_pen : PySem.W.keepIn K (.ref A.a__law_pen) = true
  b__law_pen : Binds K A.d__law_pen ["script"] []
  F__law_draw : Fun K "_law_draw" "_law_draw" s__law_draw A.a__law_draw A.d__law_draw
  g__law_draw : mg "_law_draw" = some (.ref A.a__law_draw)
  k__law_draw : PySem.W.keepIn K (.ref A.a__law_draw) = true
  b__law_draw : Binds K A.d__law_draw ["pen", "many"] []
  F__law_prime_parts : Fun K "_law_prime_parts" "_law_prime_parts" s__law_prime_parts A.a__law_prime_parts A.d__law_prime_parts
  g__law_prime_parts : mg "_law_prime_parts" = some (.ref A.a__law_prime_parts)
  k__law_prime_parts : PySem.W.keepIn K (.ref A.a__law_prime_parts) = true
  b__law_prime_parts : Binds K A.d__law_prime_parts ["number"] []
  F__law_drawn_prime : Fun K "_law_drawn_prime" "_law_drawn_prime" s__law_drawn_prime A.a__law_drawn_prime A.d__law_drawn_prime
  g__law_drawn_prime : mg "_law_drawn_prime" = some (.ref A.a__law_drawn_prime)
  k__law_drawn_prime : PySem.W.keepIn K (.ref A.a__law_drawn_prime) = true
  b__law_drawn_prime : Binds K A.d__law_drawn_prime ["pen", "most"] []
  F__law_pick : Fun K "_law_pick" "_law_pick" s__law_pick A.a__law_pick A.d__law_pick
  g__law_pick : mg "_law_pick" = some (.ref A.a__law_pick)
  k__law_pick : PySem.W.keepIn K (.ref A.a__law_pick) = true
  b__law_pick : Binds K A.d__law_pick ["pen", "some"] []
  F_is_integer : Fun K "is_integer" "is_integer" s_is_integer A.a_is_integer A.d_is_integer
  g_is_integer : mg "is_integer" = some (.ref A.a_is_integer)
  k_is_integer : PySem.W.keepIn K (.ref A.a_is_integer) = true
  b_is_integer : Binds K A.d_is_integer ["value"] []
  F_is_prime : Fun K "is_prime" "is_prime" s_is_prime A.a_is_prime A.d_is_prime
  g_is_prime : mg "is_prime" = some (.ref A.a_is_prime)
  k_is_prime : PySem.W.keepIn K (.ref A.a_is_prime) = true
  b_is_prime : Binds K A.d_is_prime ["number"] []
  F_root_by : Fun K "root_by" "root_by" s_root_by A.a_root_by A.d_root_by
  g_root_by : mg "root_by" = some (.ref A.a_root_by)
  k_root_by : PySem.W.keepIn K (.ref A.a_root_by) = true
  b_root_by : Binds K A.d_root_by ["top", "prime"] []
  F__law_more_kinds : Fun K "_law_more_kinds" "_law_more_kinds" s__law_more_kinds A.a__law_more_kinds A.d__law_more_kinds
  g__law_more_kinds : mg "_law_more_kinds" = some (.ref A.a__law_more_kinds)
  k__law_more_kinds : PySem.W.keepIn K (.ref A.a__law_more_kinds) = true
  b__law_more_kinds : Binds K A.d__law_more_kinds ["e"] []
  F__law_kinds : Fun K "_law_kinds" "_law_kinds" s__law_kinds A.a__law_kinds A.d__law_kinds
  g__law_kinds : mg "_law_kinds" = some (.ref A.a__law_kinds)
  k__law_kinds : PySem.W.keepIn K (.ref A.a__law_kinds) = true
  b__law_kinds : Binds K A.d__law_kinds ["e"] []
  F__law_fault : Fun K "_law_fault" "_law_fault" s__law_fault A.a__law_fault A.d__law_fault
  g__law_fault : mg "_law_fault" = some (.ref A.a__law_fault)
  k__law_fault : PySem.W.keepIn K (.ref A.a__law_fault) = true
  b__law_fault : Binds K A.d__law_fault ["call"] []
  F__law_is : Fun K "_law_is" "_law_is" s__law_is A.a__law_is A.d__law_is
  g__law_is : mg "_law_is" = some (.ref A.a__law_is)
  k__law_is : PySem.W.keepIn K (.ref A.a__law_is) = true
  b__law_is : Binds K A.d__law_is ["told", "due"] []
  F__law_wide : Fun K "_law_wide" "_law_wide" s__law_wide A.a__law_wide A.d__law_wide
  g__law_wide : mg "_law_wide" = some (.ref A.a__law_wide)
  k__law_wide : PySem.W.keepIn K (.ref A.a__law_wide) = true
  b__law_wide : Binds K A.d__law_wide ["pen", "figures"] []
  F_sign_by_two : Fun K "sign_by_two" "sign_by_two" s_sign_by_two A.a_sign_by_two A.d_sign_by_two
  g_sign_by_two : mg "sign_by_two" = some (.ref A.a_sign_by_two)
  k_sign_by_two : PySem.W.keepIn K (.ref A.a_sign_by_two) = true
  b_sign_by_two : Binds K A.d_sign_by_two ["top"] []
  F_sign_in : Fun K "sign_in" "sign_in" s_sign_in A.a_sign_in A.d_sign_in
  g_sign_in : mg "sign_in" = some (.ref A.a_sign_in)
  k_sign_in : PySem.W.keepIn K (.ref A.a_sign_in) = true
  b_sign_in : Binds K A.d_sign_in ["top", "bottom"] []
  F_sign_by : Fun K "sign_by" "sign_by" s_sign_by A.a_sign_by A.d_sign_by
  g_sign_by : mg "sign_by" = some (.ref A.a_sign_by)
  k_sign_by : PySem.W.keepIn K (.ref A.a_sign_by) = true
  b_sign_by : Binds K A.d_sign_by ["top", "bottom"] []
  F_law : Fun K "law" "law" s_law A.a_law A.d_law
  g_law : mg "law" = some (.ref A.a_law)
  k_law : PySem.W.keepIn K (.ref A.a_law) = true
  b_law : Binds K A.d_law ["script"] []
  m_list : mg "list" = none
  m_int : mg "int" = none
  m_len : mg "len" = none
  m_isinstance : mg "isinstance" = none
  m_bool : mg "bool" = none
  m_ValueError : mg "ValueError" = none
  m_all : mg "all" = none
  m_range : mg "range" = none
  m_repr : mg "repr" = none
  m_tuple : mg "tuple" = none
  m_str : mg "str" = none
  g_MOST_PRIME : mg "MOST_PRIME" = some (.int 2000 A.t_MOST_PRIME)
  g_BendError : mg "BendError" = some (.ref A.c_BendError)
  g_BadNumber : mg "BadNumber" = some (.ref A.c_BadNumber)
  g_BadRow : mg "BadRow" = some (.ref A.c_BadRow)
  g_BadTable : mg "BadTable" = some (.ref A.c_BadTable)
  g_BadQuadruple : mg "BadQuadruple" = some (.ref A.c_BadQuadruple)
  g_BadWord : mg "BadWord" = some (.ref A.c_BadWord)
  g_BadName : mg "BadName" = some (.ref A.c_BadName)
  g_BadText : mg "BadText" = some (.ref A.c_BadText)
  g_NoPlace : mg "NoPlace" = some (.ref A.c_NoPlace)
  g_NoName : mg "NoName" = some (.ref A.c_NoName)
  g_TakenName : mg "TakenName" = some (.ref A.c_TakenName)
  g_Unlike : mg "Unlike" = some (.ref A.c_Unlike)
  g_NotThere : mg "NotThere" = some (.ref A.c_NotThere)
  g_TooMany : mg "TooMany" = some (.ref A.c_TooMany)
  g_NotKept : mg "NotKept" = some (.ref A.c_NotKept)
  g_NothingToUndo : mg "NothingToUndo" = some (.ref A.c_NothingToUndo)
  g_NothingToRedo : mg "NothingToRedo" = some (.ref A.c_NothingToRedo)
  F_BadNumber : Fun K "__init__" "BadNumber.__init__" i_BadNumber A.ai_BadNumber A.di_BadNumber
  x_BadNumber : OexC K A.c_BadNumber
  xi_BadNumber : PySem.W.findIn K (.ref A.c_BadNumber) "__init__" = some (some (.ref A.ai_BadNumber))
  xt_BadNumber : PySem.W.typeIn K (.ref A.ai_BadNumber) = some (.type "function")
  xb_BadNumber : Binds K A.di_BadNumber ["self", "what", "number"] []
  ef_BadNumber : ExF K A.c_BadNumber
  is_BadNumber_BadNumber : PySem.W.kitOne K (.ref A.c_BadNumber) (.ref A.c_BadNumber) = some true
  is_BadNumber_BadRow : PySem.W.kitOne K (.ref A.c_BadNumber) (.ref A.c_BadRow) = some false
  is_BadNumber_BadTable : PySem.W.kitOne K (.ref A.c_BadNumber) (.ref A.c_BadTable) = some false
  is_BadNumber_BadQuadruple : PySem.W.kitOne K (.ref A.c_BadNumber) (.ref A.c_BadQuadruple) = some false
  is_BadNumber_BadWord : PySem.W.kitOne K (.ref A.c_BadNumber) (.ref A.c_BadWord) = some false
  is_BadNumber_BadName : PySem.W.kitOne K (.ref A.c_BadNumber) (.ref A.c_BadName) = some false
  is_BadNumber_BadText : PySem.W.kitOne K (.ref A.c_BadNumber) (.ref A.c_BadText) = some false
  is_BadNumber_NoPlace : PySem.W.kitOne K (.ref A.c_BadNumber) (.ref A.c_NoPlace) = some false
  is_BadNumber_NoName : PySem.W.kitOne K (.ref A.c_BadNumber) (.ref A.c_NoName) = some false
  is_BadNumber_TakenName : PySem.W.kitOne K (.ref A.c_BadNumber) (.ref A.c_TakenName) = some false
  is_BadNumber_Unlike : PySem.W.kitOne K (.ref A.c_BadNumber) (.ref A.c_Unlike) = some false
  is_BadNumber_NotThere : PySem.W.kitOne K (.ref A.c_BadNumber) (.ref A.c_NotThere) = some false
  is_BadNumber_TooMany : PySem.W.kitOne K (.ref A.c_BadNumber) (.ref A.c_TooMany) = some false
  is_BadNumber_NotKept : PySem.W.kitOne K (.ref A.c_BadNumber) (.ref A.c_NotKept) = some false
  is_BadNumber_NothingToUndo : PySem.W.kitOne K (.ref A.c_BadNumber) (.ref A.c_NothingToUndo) = some false
  is_BadNumber_NothingToRedo : PySem.W.kitOne K (.ref A.c_BadNumber) (.ref A.c_NothingToRedo) = some false
  iv_BadNumber : PySem.W.kitOne K (.ref A.c_BadNumber) (.type "ValueError") = some true
  ex_BadNumber : PySem.W.exmOne K (.ref A.c_BadNumber) (.ref A.c_BendError) = some true
  xn_BadNumber_what : PySem.W.findIn K (.ref A.c_BadNumber) "what" = some none
  xn_BadNumber_number : PySem.W.findIn K (.ref A.c_BadNumber) "number" = some none

section
variable {P : Program} {w : World} {K : PySem.W.Frag} {mg : Str → Option Value} {base : Heap} {A : Adr}
def isInt (d : PyData) : Bool := isK "int" d && !isK "bool" d
def cn_is_integer : Con PyData := { args := fun d => [.im d], pre := fun _ => True, post := fun d r => r = B (isInt d) }
theorem ok_is_integer (T : Txt K mg A) : FnOk P w K mg base CX0 1 A.a_is_integer A.d_is_integer ["value"] (spC K cn_is_integer) := by
  refine fn_ok cn_is_integer T.F_is_integer sc_is_integer (fun _ => rfl) fun cdv A' outer s H hr => ⟨_, (pss_one (ps_ret (pe_and (pe_callB call_isi (by rfl) T.m_isinstance b_isinstance (pa_cons (pv 0) (pa_cons (pe_bltn (v := .ty "int") (by rfl) T.m_int b_int rfl) pa_nil))) (pe_one (pe_not (pe_callB call_isi (by rfl) T.m_isinstance b_isinstance (pa_cons (pv 0) (pa_cons (pe_bltn (v := .ty "bool") (by rfl) T.m_bool b_bool rfl) pa_nil)))))))), fun p d pre => ?_⟩
  exact ws_ret (we_v (v_and (v_cb (n_isi ok_int) (a_cons v_im (a_cons v_c a_nil))) fun _ => v_not (v_cb (n_isi ok_bool) (a_cons v_im (a_cons v_c a_nil)))) rfl)
theorem isInt_of {d : PyData} (h : isInt d = true) : ∃ i, d = .int i := by
  cases d with
  | int i => exact ⟨i, rfl⟩
  | _ => revert h; simp [isInt, isK]
def cn_sign_by_two : Con Int := { args := fun d => [I d], pre := fun _ => True, post := fun d r => r = I (Jac.s2 d) }
theorem in17 (t : Int) : decide (t ∈ ([1, 7] : List Int)) = decide (t = 1 ∨ t = 7) := by simp
theorem ok_sign_by_two (T : Txt K mg A) : FnOk P w K mg base CX0 1 A.a_sign_by_two A.d_sign_by_two ["top"] (spC K cn_sign_by_two) := by
  refine fn_ok cn_sign_by_two T.F_sign_by_two sc_sign_by_two (fun _ => rfl) fun cdv A' outer s H hr => ⟨_, (pss_cons (ps_if (pt_cmpR op_eq (pe_op op_mod (pv 0) pe_int) pe_int (nomark _))
  (pss_one (ps_ret pe_int))
  pss_nil)
  (pss_one (ps_ret (pe_ifExp (pt_cmpR op_in_seq (pe_op op_mod (pv 0) pe_int) (pe_tup (pa_cons pe_int (pa_cons pe_int pa_nil))) rfl) pe_int (pe_un un_neg pe_int))))), fun p t pre => ?_⟩
  refine ws_seq (s_if (t_test (v_op o_eqI (v_op (o_mod (by decide)) v_im v_int) v_int)) (fun h => ?_) fun h => ?_)
  · have h := of_decide_eq_true h
    exact ws_ret (we_v v_int (by show I 0 = I _; unfold Jac.s2; rw [if_pos h]))
  · have h := of_decide_eq_false h
    refine ws_next ?_
    refine ws_ret (we_if (wt_v (t_test (v_op (o_inT (ns := [1, 7])) (v_op (o_mod (by decide)) v_im v_int) (v_tup (ds := [.int 1, .int 7]) (a_cons v_int (a_cons v_int a_nil))))) ⟨fun h2 => ?_, fun h2 => ?_⟩))
    · rw [in17] at h2
      exact we_v v_int (by show I 1 = I _; unfold Jac.s2; rw [if_neg h, if_pos (of_decide_eq_true h2)])
    · rw [in17] at h2
      exact we_v (v_un o_neg v_int) (by show I (-1) = I _; unfold Jac.s2; rw [if_neg h, if_neg (of_decide_eq_false h2)])
/-! ### sign_in -/
def Sg (s : Int) : Prop := s = 0 ∨ s = 1 ∨ s = -1
theorem s2_sg (t : Int) : Sg (Jac.s2 t) := by
  unfold Jac.s2 Sg
  split
  · exact .inl rfl
  · split
    · exact .inr (.inl rfl)
    · exact .inr (.inr rfl)
theorem Sg.mul {a b : Int} (h : Sg a) (k : Sg b) : Sg (a * b) := by
  rcases h with h | h | h <;> rcases k with k | k | k <;> subst h <;> subst k <;> simp [Sg]
theorem Sg.neg {a : Int} (h : Sg a) : Sg (-a) := by
  rcases h with h | h | h <;> subst h <;> simp [Sg]
theorem Sg.cm {a : Int} (h : Sg a) (b : Int) : CMul a b := by
  left
  rcases h with h | h | h <;> subst h <;> decide
theorem jac_half {t n : Nat} (ho : n % 2 = 1) (h : t % 2 = 0) : Jac.jac (t : Int) n = Jac.s2 (n : Int) * Jac.jac ((t / 2 : Nat) : Int) n := by
  have e : (t : Int) = 2 * ((t / 2 : Nat) : Int) := by omega
  rw [e, Jac.jac_mul ho, Jac.jac_two' ho]
theorem odd_four {n : Nat} (h : n % 2 = 1) : Jac.odd ((n - 1) / 2) = decide ((n : Int) % 4 = 3) := by
  unfold Jac.odd
  by_cases c : (n : Int) % 4 = 3
  · rw [decide_eq_true c]; exact decide_eq_true (by omega)
  · rw [decide_eq_false c]; exact decide_eq_false (by omega)
theorem jac_flip {t b : Nat} (ht : t % 2 = 1) (hb : b % 2 = 1) : Jac.jac (t : Int) b = Jac.jac ((b % t : Nat) : Int) t * (if (t : Int) % 4 = 3 ∧ (b : Int) % 4 = 3 then -1 else 1) := by
  rw [Jac.jac_odd ht hb, odd_four ht, odd_four hb]
  congr 1
  · exact Jac.jac_cong (by rw [Int.natCast_emod, Int.emod_emod])
  · unfold Jac.bs
    by_cases c1 : (t : Int) % 4 = 3 <;> by_cases c2 : (b : Int) % 4 = 3 <;> simp [c1, c2]
def cn_sign_in : Con (Int × Nat) := { args := fun d => [I d.1, I d.2], pre := fun d => 0 < d.2, post := fun d r => r = I (Jac.kr d.1 d.2) }
theorem ok_sign_in (T : Txt K mg A) : FnOk P w K mg base CX0 2 A.a_sign_in A.d_sign_in ["top", "bottom"] (spC K cn_sign_in) := by
  have G_sign_by_two : FnOk P w K mg base CX0 1 A.a_sign_by_two A.d_sign_by_two ["top"] (spC K cn_sign_by_two) := ok_sign_by_two T
  refine fn_ok cn_sign_in T.F_sign_in sc_sign_in (fun _ => rfl) fun cdv A' outer s H hr => ⟨_, (pss_cons (ps_set (i := 2) sc_sign_in.nd rfl (Or.inl rfl) pe_int)
  (pss_cons (ps_while PassesOwn.never (pt_cmpR op_eq (pe_op op_mod (pv 1) pe_int) pe_int (nomark _))
  (pss_one (ps_par (i := 2) (j := 1) (by rfl) sc_sign_in.nd rfl rfl (by decide) rfl rfl (pa_cons (pe_op op_mul (pv 2) (pe_call G_sign_by_two (hr.mono (by first | decide | omega)) (by rfl) T.g_sign_by_two T.k_sign_by_two T.b_sign_by_two .nil pass0 (pa_cons (pv 0) pa_nil))) (pa_cons (pe_op op_fdiv (pv 1) pe_int) pa_nil)) (by rfl))))
  (pss_cons (ps_aug (i := 0) sc_sign_in.nd rfl (Or.inl rfl) (pv 1) iop_mod)
  (pss_cons (ps_while PassesOwn.never (pt_cmpR op_ne (pv 0) pe_int (nomark _))
  (pss_cons (ps_while PassesOwn.never (pt_cmpR op_eq (pe_op op_mod (pv 0) pe_int) pe_int (nomark _))
  (pss_one (ps_par (i := 2) (j := 0) (by rfl) sc_sign_in.nd rfl rfl (by decide) rfl rfl (pa_cons (pe_op op_mul (pv 2) (pe_call G_sign_by_two (hr.mono (by first | decide | omega)) (by rfl) T.g_sign_by_two T.k_sign_by_two T.b_sign_by_two .nil pass0 (pa_cons (pv 1) pa_nil))) (pa_cons (pe_op op_fdiv (pv 0) pe_int) pa_nil)) (by rfl))))
  (pss_cons (ps_if (PW.pt (pw_and (pt_cmpR op_eq (pe_op op_mod (pv 0) pe_int) pe_int (nomark _)) (pw_and1 (pt_cmpR op_eq (pe_op op_mod (pv 1) pe_int) pe_int (nomark _)))))
  (pss_one (ps_set (i := 2) sc_sign_in.nd rfl (Or.inl rfl) (pe_un un_neg (pv 2))))
  pss_nil)
  (pss_one (ps_par (i := 0) (j := 1) (by rfl) sc_sign_in.nd rfl rfl (by decide) rfl rfl (pa_cons (pe_op op_mod (pv 1) (pv 0)) (pa_cons (pv 0) pa_nil)) (by rfl))))))
  (pss_one (ps_ret (pe_ifExp (pt_cmpR op_eq (pv 1) pe_int (nomark _)) (pv 2) pe_int))))))), fun p ⟨t, b0⟩ pre => ?_⟩
  refine ws_seq (ws_asg (we_v v_int ?_))
  refine ws_seq (ws_while (fun m Γ => ∃ (s : Int) (b : Nat), b = m ∧ 0 < b ∧ Γ = [I t, I b, I s] ∧ Sg s ∧ s * Jac.kr t b = Jac.kr t b0) b0 (up_of ⟨1, b0, rfl, pre, rfl, .inr (.inl rfl), Int.one_mul _⟩) ?_)
  rintro m Γ ⟨s, b, rfl, hb, rfl, hs, e⟩
  refine wt_v (t_test (v_op o_eqI (v_op (o_mod (by decide)) v_im v_int) v_int)) ⟨fun h => ?_, fun h => ?_⟩
  · have h := of_decide_eq_true h
    refine s_par (a_cons (v_op (o_mul (hs.cm _)) v_im (v_call t (a_cons v_im a_nil) rfl trivial (fun r h => h) (fun _ h => h))) (a_cons (v_op (o_fdiv ⟨by decide, by decide⟩) v_im v_int) a_nil)) ?_
    refine ⟨b / 2, by omega, up_of ⟨_, _, rfl, by omega, ?_, hs.mul (s2_sg t), ?_⟩⟩
    · show [I t, I ((b : Int) / 2), I (s * Jac.s2 t)] = _
      rw [show (b : Int) / 2 = ((b / 2 : Nat) : Int) by omega]
    · rw [← e, Jac.kr_even hb (by omega), Int.mul_assoc]
  · have h := of_decide_eq_false h
    have ho : b % 2 = 1 := by omega
    rw [Jac.kr_odd ho] at e
    refine ws_seq (ws_aug rfl (we_v v_im ⟨_, o_mod (by omega), ?_⟩))
    have hb0 : (0 : Int) ≤ t % (b : Int) := Int.emod_nonneg _ (by omega)
    obtain ⟨u, hu⟩ := Int.eq_ofNat_of_zero_le hb0
    show WS _ _ [I (t % (b : Int)), I b, I s] _
    have e1 : s * Jac.jac (u : Int) b = Jac.kr t b0 := by
      rw [← e, ← hu]
      congr 1
      exact Jac.jac_cong (Int.emod_emod _ _)
    rw [hu]
    clear hu hb0 h e
    refine ws_seq (ws_while (fun m Γ => ∃ (s : Int) (b u : Nat), u = m ∧ b % 2 = 1 ∧ Γ = [I u, I b, I s] ∧ Sg s ∧ s * Jac.jac (u : Int) b = Jac.kr t b0) u (up_of ⟨s, b, u, rfl, ho, rfl, hs, e1⟩) ?_)
    clear hb ho hs e1
    rintro m Γ ⟨s, b, u, rfl, ho, rfl, hs, e1⟩
    refine wt_v (t_test (v_op o_neI v_im v_int)) ⟨fun h => ?_, fun h => ?_⟩
    · have h : ¬ (u : Int) = 0 := by simpa using h
      generalize hm0 : u = m0 at hs e1 h ⊢
      refine ws_seq (ws_while (fun m' Γ => ∃ (s : Int) (u : Nat), u = m' ∧ 0 < u ∧ u ≤ m0 ∧ Γ = [I u, I b, I s] ∧ Sg s ∧ s * Jac.jac (u : Int) b = Jac.kr t b0) m0 (up_of ⟨s, m0, rfl, by omega, Nat.le_refl _, rfl, hs, e1⟩) ?_)
      clear hs e1
      rintro m' Γ ⟨s, u, rfl, hu, hum, rfl, hs, e1⟩
      refine wt_v (t_test (v_op o_eqI (v_op (o_mod (by decide)) v_im v_int) v_int)) ⟨fun h => ?_, fun h => ?_⟩
      · have h := of_decide_eq_true h
        refine s_par (a_cons (v_op (o_mul (hs.cm _)) v_im (v_call (b : Int) (a_cons v_im a_nil) rfl trivial (fun r h => h) (fun _ h => h))) (a_cons (v_op (o_fdiv ⟨by decide, by decide⟩) v_im v_int) a_nil)) ?_
        refine ⟨u / 2, by omega, up_of ⟨_, _, rfl, by omega, by omega, ?_, hs.mul (s2_sg b), ?_⟩⟩
        · show [I ((u : Int) / 2), I b, I (s * Jac.s2 b)] = _
          rw [show (u : Int) / 2 = ((u / 2 : Nat) : Int) by omega]
        · rw [← e1, jac_half (t := u) ho (by omega), Int.mul_assoc]
      · have h := of_decide_eq_false h
        have hu1 : u % 2 = 1 := by omega
        have e2 := jac_flip hu1 ho
        refine ws_seq (s_if (t_and (t_test (v_op o_eqI (v_op (o_mod (by decide)) v_im v_int) v_int)) fun _ => t_test (v_op o_eqI (v_op (o_mod (by decide)) v_im v_int) v_int)) (fun h2 => ?_) fun h2 => ?_)
        · have h2 : (u : Int) % 4 = 3 ∧ (b : Int) % 4 = 3 := by simpa using h2
          rw [if_pos h2] at e2
          refine ws_asg (we_v (v_un o_neg v_im) ?_)
          have hj : (0 : Int) < (u : Int) := by omega
          refine s_par (a_cons (v_op (o_mod hj) v_im v_im) (a_cons v_im a_nil)) ?_
          refine ⟨b % u, Nat.lt_of_lt_of_le (Nat.mod_lt _ hu) hum, up_of ⟨-s, u, b % u, rfl, hu1, ?_, hs.neg, ?_⟩⟩
          · show [I ((b : Int) % (u : Int)), I u, I (-s)] = _
            rw [Int.natCast_emod]
          · rw [← e1, e2]
            generalize Jac.jac _ _ = z
            grind
        · have h2 : ¬ ((u : Int) % 4 = 3 ∧ (b : Int) % 4 = 3) := by simpa using h2
          rw [if_neg h2] at e2
          refine ws_next ?_
          have hj : (0 : Int) < (u : Int) := by omega
          refine s_par (a_cons (v_op (o_mod hj) v_im v_im) (a_cons v_im a_nil)) ?_
          refine ⟨b % u, Nat.lt_of_lt_of_le (Nat.mod_lt _ hu) hum, up_of ⟨s, u, b % u, rfl, hu1, ?_, hs, ?_⟩⟩
          · show [I ((b : Int) % (u : Int)), I u, I s] = _
            rw [Int.natCast_emod]
          · rw [← e1, e2]
            generalize Jac.jac _ _ = z
            grind
    · have h : (u : Int) = 0 := by simpa using h
      have hm : u = 0 := by omega
      subst hm
      rw [show ((0 : Nat) : Int) = 0 from rfl, Jac.jac_zero] at e1
      refine ws_ret (we_if (wt_v (t_test (v_op o_eqI v_im v_int)) ⟨fun h => ?_, fun h => ?_⟩))
      · have h := of_decide_eq_true h
        have hb : b = 1 := by omega
        rw [if_pos hb, Int.mul_one] at e1
        exact we_v v_im (by show I s = I _; rw [e1])
      · have h := of_decide_eq_false h
        have hb : ¬ b = 1 := by omega
        rw [if_neg hb, Int.mul_zero] at e1
        exact we_v v_int (by show I 0 = I _; rw [e1])
/-! ### the parts of a number -/
def prd : List Nat → Nat
  | [] => 1
  | p :: r => p * prd r
theorem prd_snoc (l : List Nat) (p : Nat) : prd (l ++ [p]) = prd l * p := by
  induction l with
  | nil => simp [prd]
  | cons q r ih => simp [prd, ih, Nat.mul_assoc]
/-- nothing below q divides n -/
def NoDiv (q n : Nat) : Prop := ∀ r, 2 ≤ r → r < q → ¬ r ∣ n
theorem noDiv_root {q n : Nat} (h : NoDiv q n) (hn : 2 ≤ n) (hq : n < q * q) : NoDiv n n := by
  intro r h2 hr hd
  obtain ⟨k, e⟩ := hd
  have hk : 2 ≤ k := by
    rcases Nat.lt_or_ge k 2 with z | z
    · have : k = 0 ∨ k = 1 := by omega
      rcases this with rfl | rfl <;> simp at e <;> omega
    · exact z
  rcases Nat.lt_or_ge r q with z | z
  · exact h r h2 z ⟨k, e⟩
  · rcases Nat.lt_or_ge k q with z' | z'
    · exact h k hk z' ⟨r, by rw [e, Nat.mul_comm]⟩
    · have := Nat.mul_le_mul z z'
      omega
theorem noDiv_pr {q n : Nat} (h2 : 2 ≤ q) (h : NoDiv q n) (hd : q ∣ n) : Jac.Pr q := by
  refine ⟨h2, fun r hr hrq e => h r hr hrq (Nat.dvd_trans (Nat.dvd_of_mod_eq_zero e) hd)⟩
def intsD (ps : List Nat) : List PyData := ps.map fun (p : Nat) => PyData.int (p : Int)
def cn_prime_parts : Con Nat := { args := fun n => [I n], pre := fun n => 0 < n ∧ n < 1000000, post := fun n r => ∃ ps : List Nat, r = .ls (intsD ps) ∧ prd ps = n ∧ ∀ q ∈ ps, Jac.Pr q ∧ q ≤ n }
theorem ok__law_prime_parts (T : Txt K mg A) : FnOk P w K mg base CX0 1 A.a__law_prime_parts A.d__law_prime_parts ["number"] (spC K cn_prime_parts) := by
  refine fn_ok cn_prime_parts T.F__law_prime_parts sc__law_prime_parts (fun _ => rfl) fun cdv A' outer s H hr => ⟨_, (pss_cons (ps_par (i := 1) (j := 2) (by rfl) sc__law_prime_parts.nd rfl rfl (by decide) rfl rfl (pa_cons (pe_lst pa_nil) (pa_cons pe_int pa_nil)) (by rfl))
  (pss_cons (ps_while PassesOwn.never (pt_cmpR op_gt (pv 0) pe_int (nomark _))
  (pss_cons (ps_if (pt_cmpR op_gt (pe_op op_mul (pv 2) (pv 2)) (pv 0) (nomark _))
  (pss_one (ps_set (i := 2) sc__law_prime_parts.nd rfl (Or.inl rfl) (pv 0)))
  pss_nil)
  (pss_cons (ps_while PassesOwn.never (pt_cmpR op_eq (pe_callTy call_int1 (by rfl) T.m_int b_int (pa_cons (pe_op op_mod (pv 0) (pv 2)) pa_nil)) pe_int (nomark _))
  (pss_cons (ps_expr (pe_bm PySem.F.plainAttrs_list PySem.F.slot_list_append PySem.F.type_list_append mt_append (pv 1) (pa_cons (pv 2) pa_nil)))
  (pss_one (ps_set (i := 0) sc__law_prime_parts.nd rfl (Or.inl rfl) (pe_op op_fdiv (pv 0) (pv 2))))))
  (pss_one (ps_set (i := 2) sc__law_prime_parts.nd rfl (Or.inl rfl) (pe_op op_add (pv 2) pe_int))))))
  (pss_one (ps_ret (pv 1))))), fun p n0 ⟨h0, hbig⟩ => ?_⟩
  refine ws_seq (s_par (a_cons (v_lst (ds := []) a_nil) (a_cons v_int a_nil)) ?_)
  refine ws_seq (ws_while (fun m Γ => ∃ (n : Nat) (ps : List Nat) (q : Nat), n + (n - q) = m ∧ 0 < n ∧ 2 ≤ q ∧ q ≤ n0 + 2 ∧ NoDiv q n ∧ Γ = [I n, .ls (intsD ps), I q] ∧ prd ps * n = n0 ∧ ps.length + n ≤ n0 ∧ ∀ q ∈ ps, Jac.Pr q ∧ q ≤ n0) (n0 + (n0 - 2)) (up_of ⟨n0, [], 2, rfl, h0, Nat.le_refl _, by omega, fun r a b => absurd b (by omega), rfl, by simp [prd], by simp, by simp⟩) ?_)
  rintro m Γ ⟨n, ps, q, rfl, hn, hq, hqn, nd, rfl, hp, hl, hps⟩
  refine wt_v (t_test (v_op o_gt v_im v_int)) ⟨fun h => ?_, fun h => ?_⟩
  · have h : (1 : Int) < n := of_decide_eq_true h
    have hn0 : n ≤ n0 := by omega
    have cm : CMul (q : Int) (q : Int) := .inl ⟨by omega, by omega⟩
    refine ws_mid (fun Γ => ∃ q1 : Nat, 2 ≤ q1 ∧ q1 ≤ n0 + 1 ∧ NoDiv q1 n ∧ (q1 = n ∨ (q1 = q ∧ q * q ≤ n)) ∧ Γ = [I n, .ls (intsD ps), I q1]) (s_if (t_test (v_op o_gt (v_op (o_mul cm) v_im v_im) v_im)) (fun hh => ?_) fun hh => ?_) ?_
    · have hh : (n : Int) < (q : Int) * (q : Int) := of_decide_eq_true hh
      have hh : n < q * q := by exact_mod_cast hh
      refine ws_asg (we_v v_im ?_)
      exact ⟨n, by omega, by omega, noDiv_root nd (by omega) hh, .inl rfl, rfl⟩
    · have hh : ¬ (n : Int) < (q : Int) * (q : Int) := of_decide_eq_false hh
      have hh : q * q ≤ n := by
        have : ((q * q : Nat) : Int) ≤ n := by rw [Int.natCast_mul]; omega
        exact_mod_cast this
      refine ws_next ?_
      have : q ≤ q * q := Nat.le_mul_self q
      exact ⟨q, hq, by omega, nd, .inr ⟨rfl, hh⟩, rfl⟩
    rintro Γ1 ⟨q1, h2, hq1, nd1, hc, rfl⟩
    refine ws_seq (ws_while (fun m' Γ => ∃ (k : Nat) (ps : List Nat), k = m' ∧ 0 < k ∧ k ∣ n ∧ Γ = [I k, .ls (intsD ps), I q1] ∧ prd ps * k = n0 ∧ ps.length + k ≤ n0 ∧ ∀ q ∈ ps, Jac.Pr q ∧ q ≤ n0) n (up_of ⟨n, ps, rfl, hn, Nat.dvd_refl _, rfl, hp, hl, hps⟩) ?_)
    rintro m' Γ ⟨k, ps, rfl, hk, hkn, rfl, hp, hl, hps⟩
    have hj : (0 : Int) < (q1 : Int) := by omega
    have hkle : k ≤ n := Nat.le_of_dvd hn hkn
    refine wt_v (t_test (v_op o_eqI (v_cb n_int (a_cons (v_op (o_mod hj) v_im v_im) a_nil)) v_int)) ⟨fun h => ?_, fun h => ?_⟩
    · have h : (k : Int) % (q1 : Int) = 0 := of_decide_eq_true h
      have hd : q1 ∣ k := Int.natCast_dvd_natCast.mp (Int.dvd_of_emod_eq_zero h)
      have hlen : (intsD ps).length < 1000000 := by unfold intsD; rw [List.length_map]; omega
      refine ws_seq (s_app v_im ?_ hlen)
      have hc2 : CDiv (k : Int) (q1 : Int) := ⟨hj, by omega⟩
      refine ws_asg (we_v (v_op (o_fdiv hc2) v_im v_im) ?_)
      have hlt : k / q1 < k := Nat.div_lt_self hk (by omega)
      have hpos : 0 < k / q1 := Nat.div_pos (Nat.le_of_dvd hk hd) (by omega)
      have hq1k : q1 ≤ k := Nat.le_of_dvd hk hd
      refine ⟨k / q1, hlt, up_of ⟨k / q1, ps ++ [q1], rfl, hpos, Nat.dvd_trans (Nat.div_dvd_of_dvd hd) hkn, ?_, ?_, ?_, ?_⟩⟩
      · show [I ((k : Int) / (q1 : Int)), .ls (intsD ps ++ [.int (q1 : Int)]), I q1] = _
        rw [Int.natCast_ediv, intsD, intsD, List.map_append]
        rfl
      · rw [prd_snoc, Nat.mul_assoc, Nat.mul_div_cancel' hd, hp]
      · rw [List.length_append]; simp; omega
      · intro x hx
        rcases List.mem_append.mp hx with z | z
        · exact hps x z
        · have : x = q1 := by simpa using z
          subst this
          exact ⟨noDiv_pr h2 nd1 (Nat.dvd_trans hd hkn), by omega⟩
    · have h : ¬ (k : Int) % (q1 : Int) = 0 := of_decide_eq_false h
      have hd : ¬ q1 ∣ k := fun z => h (Int.emod_eq_zero_of_dvd (Int.natCast_dvd_natCast.mpr z))
      refine ws_asg (we_v (v_op o_add v_im v_int) ?_)
      refine ⟨k + (k - (q1 + 1)), ?_, up_of ⟨k, ps, q1 + 1, rfl, hk, by omega, by omega, ?_, ?_, hp, hl, hps⟩⟩
      · rcases hc with z | ⟨z1, z2⟩
        · subst z
          have : k ≠ q1 := fun z => hd (by rw [z]; exact Nat.dvd_refl _)
          omega
        · subst z1
          have : q1 < n := by
            have := Nat.mul_le_mul_right q1 h2
            omega
          omega
      · intro r a b c
        rcases Nat.lt_or_ge r q1 with z | z
        · exact nd1 r a z (Nat.dvd_trans c hkn)
        · have : r = q1 := by omega
          subst this
          exact hd c
      · show [I k, .ls (intsD ps), I ((q1 : Int) + 1)] = _
        rfl
  · have h : ¬ (1 : Int) < n := of_decide_eq_false h
    have hn1 : n = 1 := by omega
    subst hn1
    rw [Nat.mul_one] at hp
    exact ws_retV ⟨ps, rfl, hp, hps⟩ rfl
def sqs (q : Nat) : List Int := (List.range (q - 1)).map fun (i : Nat) => ((1 + (i : Int)) * (1 + (i : Int))) % (q : Int)
theorem mem_sqs {q : Nat} {z : Int} : z ∈ sqs q ↔ ∃ x : Nat, 1 ≤ x ∧ x < q ∧ ((x : Int) * x) % q = z := by
  unfold sqs
  rw [List.mem_map]
  constructor
  · rintro ⟨i, hi, e⟩
    have hi := List.mem_range.mp hi
    exact ⟨i + 1, by omega, by omega, by rw [← e]; simp [Int.add_comm]⟩
  · rintro ⟨x, h1, h2, e⟩
    exact ⟨x - 1, List.mem_range.mpr (by omega), by rw [← e]; rw [show (1 + ((x - 1 : Nat) : Int)) = x by omega]⟩
theorem jac_nil {t : Int} {q : Nat} (hq : Jac.Pr q) (h : t % (q : Int) = 0) : Jac.jac t q = 0 := by
  refine Jac.jac_ne (by have := hq.1; omega) fun z => ?_
  have : (q : Int) ∣ t := Int.dvd_of_emod_eq_zero h
  have h2 : q ∣ Int.gcd t q := Int.dvd_gcd this (Int.dvd_refl _) |> fun z => by exact_mod_cast z
  rw [z] at h2
  have := Nat.le_of_dvd (by decide) h2
  have := hq.1
  omega
theorem jac_sq {t : Int} {q : Nat} (hq : Jac.Pr q) (ho : q % 2 = 1) (hb : q < 2000) (h : ¬ t % (q : Int) = 0) : Jac.jac t q = if t % (q : Int) ∈ sqs q then 1 else -1 := by
  have hq0 : 0 < q := by have := hq.1; omega
  have hnn : 0 ≤ t % (q : Int) := Int.emod_nonneg _ (by omega)
  obtain ⟨u, hu⟩ := Int.eq_ofNat_of_zero_le hnn
  have hlt : (u : Int) < q := by rw [← hu]; exact Int.emod_lt_of_pos _ (by omega)
  have hu0 : u ≠ 0 := fun z => h (by rw [hu, z]; rfl)
  have hm : u ∈ Jac.R q := (Jac.mem_R hq.1).2 ⟨by omega, by omega⟩
  have e : Jac.jac t q = Jac.jac (u : Int) q := Jac.jac_cong (by rw [← hu, Int.emod_emod])
  have key : ((u : Int) ∈ sqs q) ↔ Jac.jac (u : Int) q = 1 := by
    rw [mem_sqs]
    constructor
    · rintro ⟨x, h1, h2, e2⟩
      have hx : x ∈ Jac.R q := (Jac.mem_R hq.1).2 ⟨h1, h2⟩
      have : Jac.jac (u : Int) q = Jac.jac ((x : Int) * x) q := Jac.jac_cong (by rw [← e2, Int.emod_emod])
      rw [this, Jac.jac_mul ho]
      rcases Jac.jac_pm_nat hq hx with z | z <;> rw [z] <;> rfl
    · intro z
      obtain ⟨g, hg⟩ := Jac.non_exists hq ho hb
      obtain ⟨x, h1, h2, h3⟩ := Jac.sq_mem hq ho hg hm z
      exact ⟨x, h1, h2, by exact_mod_cast congrArg (fun n : Nat => (n : Int)) h3⟩
  rw [e, hu]
  by_cases z : (u : Int) ∈ sqs q
  · rw [if_pos z]; exact key.1 z
  · rw [if_neg z]
    exact (Jac.jac_pm_nat hq hm).resolve_left fun y => z (key.2 y)
theorem range_ints {lo : Int} {n : Nat} {d : PyData} (h : d ∈ rangeD lo n) : ∃ i : Nat, i < n ∧ d = .int (lo + i) := by
  unfold rangeD at h
  obtain ⟨i, hi, e⟩ := List.mem_map.mp h
  exact ⟨i, List.mem_range.mp hi, e.symm⟩
/-! ### what is told is what is due -/
def okDue : Nat → PyData → Prop
  | 0, _ => False
  | n + 1, .tuple es => es.length ≤ 1000 ∧ ∀ e ∈ es, okDue n e
  | _ + 1, .none => True
  | _ + 1, .bool _ => True
  | _ + 1, .int _ => True
  | _ + 1, .str x => SeqAt.shaped (.str x) = true
  | _ + 1, _ => False
def cn_is (n : Nat) : Con PyData := { args := fun d => [.im d, .im d], pre := fun d => okDue n d, post := fun d r => r = B true }
theorem eqv_str (x : Str) : PyData.eqv (.str x) (.str x) = true := by simp [PyData.eqv]
theorem eqv_int (x : Int) : PyData.eqv (.int x) (.int x) = true := by simp [PyData.eqv]
theorem eqv_nil : PyData.eqv (.list []) (.list []) = true := by simp [PyData.eqv, PyData.eqvAll]
theorem ok__law_is (T : Txt K mg A) (n : Nat) : FnOk P w K mg base CX0 n A.a__law_is A.d__law_is ["told", "due"] (spC K (cn_is n)) := by
  induction n with
  | zero => exact ⟨fun vs H Q E ⟨p, a, _, _, h, _⟩ => h.elim, fun _ _ _ _ _ _ vs Q E _ _ _ _ ⟨p, a, _, _, h, _⟩ => h.elim⟩
  | succ n ih =>
  have G__law_is : FnOk P w K mg base CX0 n A.a__law_is A.d__law_is ["told", "due"] (spC K (cn_is n)) := ih
  refine fn_ok (cn_is (n + 1)) T.F__law_is sc__law_is (fun _ => rfl) fun cdv A' outer s H hr => ⟨_, (pss_cons (ps_if (pt_val (pe_callB call_isi (by rfl) T.m_isinstance b_isinstance (pa_cons (pv 1) (pa_cons (pe_bltn (v := .ty "tuple") (by rfl) T.m_tuple b_tuple rfl) pa_nil))))
  (pss_cons (ps_if (PW.pt (pw_or (pt_not (pt_val (pe_callB call_isi (by rfl) T.m_isinstance b_isinstance (pa_cons (pv 0) (pa_cons (pe_bltn (v := .ty "tuple") (by rfl) T.m_tuple b_tuple rfl) pa_nil))))) (pw_or1 (pt_cmpR op_ne (pe_callB call_len_seq (by rfl) T.m_len b_len (pa_cons (pv 0) pa_nil)) (pe_callB call_len_seq (by rfl) T.m_len b_len (pa_cons (pv 1) pa_nil)) (nomark _)))))
  (pss_one (ps_ret pe_bl))
  pss_nil)
  (pss_one (ps_ret (pe_cmpR (op_eqD hr.units) (pe_lc (own := [("at", 2)]) (g := (gName 2)) (by rfl) sc__law_is.nd (pi_range1 (by rfl) T.m_range (pa_cons (pe_callB call_len_seq (by rfl) T.m_len b_len (pa_cons (pv 1) pa_nil)) pa_nil)) (blkOk_by (own := [("at", 2)]) (N := ["told", "due", "at"]) (sc := defScope s__law_is) (by decide +kernel)) (fun _ _ _ _ _ => (pg_name (i := 2) sc__law_is.nd rfl (Or.inl rfl))) (fun _ _ _ _ _ => (pts_one (pt_not (pt_val (pe_call G__law_is (hr.mono (by first | decide | omega)) (by rfl) T.g__law_is T.k__law_is T.b__law_is .nil pass0 (pa_cons (pe_ix (r := rIxT K) ix_tup (pv 0) (pv 2) (fun _ _ => rfl)) (pa_cons (pe_ix (r := rIxT K) ix_tup (pv 1) (pv 2) (fun _ _ => rfl)) pa_nil))))))) (fun _ _ _ _ _ => (pv 2))) (pe_lst pa_nil) (nomark _)))))
  pss_nil)
  (pss_cons (ps_if (pt_cmpR op_isN (pv 1) pe_non (nomark _))
  (pss_one (ps_ret (pe_cmpR op_isN (pv 0) pe_non (nomark _))))
  pss_nil)
  (pss_cons (ps_if (pt_cmpR op_isD (pv 1) pe_bl (nomark _))
  (pss_one (ps_ret (pe_cmpR op_isD (pv 0) pe_bl (nomark _))))
  pss_nil)
  (pss_cons (ps_if (pt_cmpR op_isD (pv 1) pe_bl (nomark _))
  (pss_one (ps_ret (pe_cmpR op_isD (pv 0) pe_bl (nomark _))))
  pss_nil)
  (pss_cons (ps_if (pt_val (pe_callB call_isi (by rfl) T.m_isinstance b_isinstance (pa_cons (pv 1) (pa_cons (pe_bltn (v := .ty "str") (by rfl) T.m_str b_str rfl) pa_nil))))
  (pss_one (ps_ret (pe_and (pe_callB call_isi (by rfl) T.m_isinstance b_isinstance (pa_cons (pv 0) (pa_cons (pe_bltn (v := .ty "str") (by rfl) T.m_str b_str rfl) pa_nil))) (pe_one (pe_cmpR (op_eqD hr.units) (pv 0) (pv 1) (nomark _))))))
  pss_nil)
  (pss_one (ps_ret (pe_and (pe_callB call_isi (by rfl) T.m_isinstance b_isinstance (pa_cons (pv 0) (pa_cons (pe_bltn (v := .ty "int") (by rfl) T.m_int b_int rfl) pa_nil))) (pe_and (pe_not (pe_callB call_isi (by rfl) T.m_isinstance b_isinstance (pa_cons (pv 0) (pa_cons (pe_bltn (v := .ty "bool") (by rfl) T.m_bool b_bool rfl) pa_nil)))) (pe_one (pe_cmpR (op_eqD hr.units) (pv 0) (pv 1) (nomark _)))))))))))), fun p d pre => ?_⟩
  refine ws_seq (s_if (t_B (v_cb (n_isi ok_tuple) (a_cons v_im (a_cons v_c a_nil)))) (fun h => ?_) fun h => ?_)
  · obtain ⟨es, rfl⟩ : ∃ es, d = .tuple es := by cases d <;> first | exact ⟨_, rfl⟩ | (exact absurd h (by simp [isK]))
    obtain ⟨hl, hes⟩ := pre
    refine ws_seq (s_if (t_or (t_not (t_B (v_cb (n_isi ok_tuple) (a_cons v_im (a_cons v_c a_nil))))) fun _ => t_test (v_op o_neI (v_cb n_lenT (a_cons v_im a_nil)) (v_cb n_lenT (a_cons v_im a_nil)))) (fun h => ?_) fun h => ?_)
    · exact absurd h (by simp [isK])
    · refine ws_next ?_
      refine ws_ret (we_v (v_op (o_eqD (ra := .ls []) (rb := .ls []) rfl rfl rfl rfl) (ve_is (v_lc (i_r1 (a_cons (v_cb n_lenT (a_cons v_im a_nil)) a_nil) (by omega) (by omega)) (fun _ => false) id (by unfold rangeD; simp; omega) (Nat.le_of_ble_eq_true rfl) rfl (fun x hx => ?_) fun x hx hk => absurd hk (by simp)) ?_) (v_lst (ds := []) a_nil)) ?_)
      · obtain ⟨i, hi, rfl⟩ := range_ints hx
        have hi : i < es.length := by simpa using hi
        have at_ : atI es (0 + (i : Int)) = some (es[i]) := by
          unfold atI
          rw [show ixN es.length (0 + (i : Int)) = some i by unfold ixN; rw [if_pos (by omega), if_pos (by omega)]; congr 1; omega]
          simp [hi]
        exact vt_is (t_not (a := true) (t_B (v_call (es[i]) (a_cons (v_op (o_ixT at_) v_im v_im) (a_cons (v_op (o_ixT at_) v_im v_im) a_nil)) rfl (hes _ (List.getElem_mem hi)) (fun r h => h) (fun _ h => h)))) rfl
      · simp
      · show B _ = B true
        rw [eqv_nil]
  · refine ws_next ?_
    refine ws_seq (s_if (t_test (v_op o_isN v_im v_non)) (fun h => ?_) fun h => ?_)
    · exact ws_ret (we_v (v_op o_isN v_im v_non) (by show B _ = B true; rw [h]))
    · refine ws_next ?_
      refine ws_seq (s_if (t_test (v_op o_isD v_im v_bl)) (fun h => ?_) fun h => ?_)
      · exact ws_ret (we_v (v_op o_isD v_im v_bl) (by show B _ = B true; rw [h]))
      · refine ws_next ?_
        refine ws_seq (s_if (t_test (v_op o_isD v_im v_bl)) (fun h => ?_) fun h => ?_)
        · exact ws_ret (we_v (v_op o_isD v_im v_bl) (by show B _ = B true; rw [h]))
        · refine ws_next ?_
          cases d with
          | str x =>
            refine ws_seq (s_if (t_B (v_cb (n_isi ok_str) (a_cons v_im (a_cons v_c a_nil)))) (fun h => ?_) fun h => absurd h (by simp [isK]))
            refine ws_ret (we_v (v_and (v_cb (n_isi ok_str) (a_cons v_im (a_cons v_c a_nil))) fun _ => v_op (o_eqD rfl rfl pre pre) v_im v_im) ?_)
            show B _ = B true
            rw [eqv_str]; rfl
          | int x =>
            refine ws_seq (s_if (t_B (v_cb (n_isi ok_str) (a_cons v_im (a_cons v_c a_nil)))) (fun h => absurd h (by simp [isK])) fun h => ?_)
            refine ws_next ?_
            refine ws_ret (we_v (v_and (v_cb (n_isi ok_int) (a_cons v_im (a_cons v_c a_nil))) fun _ => v_and (v_not (v_cb (n_isi ok_bool) (a_cons v_im (a_cons v_c a_nil)))) fun _ => v_op (o_eqD rfl rfl rfl rfl) v_im v_im) ?_)
            show B _ = B true
            rw [eqv_int]; rfl
          | none => exact absurd ‹isNon PyData.none = false› (by simp [isNon])
          | bool b => cases b <;> first | exact absurd ‹isBo true (PyData.bool true) = false› (by simp [isBo]) | exact absurd ‹isBo false (PyData.bool false) = false› (by simp [isBo])
          | tuple es => exact absurd ‹isK "tuple" (PyData.tuple es) = false› (by simp [isK])
          | list es => exact pre.elim
          | dict es => exact pre.elim
/-! ### the pen -/
theorem neCA : ¬ kC = kA := by decide +kernel
theorem neCD : ¬ kC = kD := by decide +kernel
theorem neCN : ¬ kC = kN := by decide +kernel
theorem neCF : ¬ kC = kF := by decide +kernel
theorem neAD : ¬ kA = kD := by decide +kernel
theorem neAN : ¬ kA = kN := by decide +kernel
theorem neAF : ¬ kA = kF := by decide +kernel
theorem neDN : ¬ kD = kN := by decide +kernel
theorem neDF : ¬ kD = kF := by decide +kernel
theorem neNF : ¬ kN = kF := by decide +kernel
theorem getC {l : Addr} {at_ dg ct fo : Int} : valV (penD l at_ dg ct fo) kC = some (.ref l) := by unfold penD; rw [valV_pos rfl]
theorem getA {l : Addr} {at_ dg ct fo : Int} : valV (penD l at_ dg ct fo) kA = some (.int at_) := by unfold penD; rw [valV_neg neCA, valV_pos rfl]
theorem getD {l : Addr} {at_ dg ct fo : Int} : valV (penD l at_ dg ct fo) kD = some (.int dg) := by unfold penD; rw [valV_neg neCD, valV_neg neAD, valV_pos rfl]
theorem getN {l : Addr} {at_ dg ct fo : Int} : valV (penD l at_ dg ct fo) kN = some (.int ct) := by unfold penD; rw [valV_neg neCN, valV_neg neAN, valV_neg neDN, valV_pos rfl]
theorem getF {l : Addr} {at_ dg ct fo : Int} : valV (penD l at_ dg ct fo) kF = some (.int fo) := by unfold penD; rw [valV_neg neCF, valV_neg neAF, valV_neg neDF, valV_neg neNF, valV_pos rfl]
theorem putA {l : Addr} {at_ dg ct fo x : Int} : putK (penD l at_ dg ct fo) kA (.int x) = penD l x dg ct fo := by
  unfold putK penD
  simp [neCA, Ne.symm neAD, Ne.symm neAN, Ne.symm neAF]
theorem putD {l : Addr} {at_ dg ct fo x : Int} : putK (penD l at_ dg ct fo) kD (.int x) = penD l at_ x ct fo := by
  unfold putK penD
  simp [neCD, neAD, Ne.symm neDN, Ne.symm neDF]
theorem putN {l : Addr} {at_ dg ct fo x : Int} : putK (penD l at_ dg ct fo) kN (.int x) = penD l at_ dg x fo := by
  unfold putK penD
  simp [neCN, neAN, neDN, Ne.symm neNF]
theorem putF' {l : Addr} {at_ dg ct fo x : Int} : putK (penD l at_ dg ct fo) kF (.int x) = penD l at_ dg ct x := by
  unfold putK penD
  simp [neCF, neAF, neDF, neNF]
theorem penLen {l : Addr} {at_ dg ct fo : Int} : (penD l at_ dg ct fo).length < sizeLine := by rw [sizeLine_eq]; show 5 < _; decide
theorem atI_nat {α : Type} {xs : List α} {i : Nat} (h : i < xs.length) : atI xs (i : Int) = some xs[i] := by
  unfold atI
  rw [show ixN xs.length (i : Int) = some i by unfold ixN; rw [if_pos (by omega), if_pos (by omega)]; congr 1]
  simp [h]
structure PSt (H0 : Hp) (q l : Addr) (ns : List Int) (H : Hp) (at_ dg ct fo : Int) : Prop where
  h : H q = some (.dK (penD l at_ dg ct fo))
  hl : H l = some (.lst (ns.map V.int))
  ne : l ≠ q
  a0 : 0 ≤ at_
  d0 : 0 ≤ dg
  same : ∀ a o, a ≠ q → H0 a = some o → H a = some o
theorem PSt.put {H0 H : Hp} {q l : Addr} {ns : List Int} {a d c f a' d' c' f' : Int} {k : Key} {x : V} (S : PSt H0 q l ns H a d c f) (e : putK (penD l a d c f) k x = penD l a' d' c' f') (h1 : 0 ≤ a') (h2 : 0 ≤ d') :
    PSt H0 q l ns (upd H q (.dK (putK (penD l a d c f) k x))) a' d' c' f' :=
  ⟨by rw [upd_same, e], by rw [upd_ne S.ne]; exact S.hl, S.ne, h1, h2, fun b o n e => by rw [upd_ne n]; exact S.same b o n e⟩
theorem rd {σ : L2.St} {H : Hp} {Q : VK} {i : Nat} {q : Addr} {kvs : List (Key × V)} {k : Str} {v : V} (hs : σ[i]? = some (some (.ref q))) (h : H q = some (.dK kvs)) (g : valV kvs (.inr k) = some v) (hq : Q v H) : tDGet (tVar i) (tC (.str k)) σ H Q :=
  ⟨_, hs, q, v, rfl, by rw [← g]; exact DGet.k (k := .inr k) h, hq⟩
theorem ifT {b : Bool} {X Y : Prop} (h : b = true) (x : X) : if b = true then X else Y := by rw [if_pos h]; exact x
theorem ifF {b : Bool} {X Y : Prop} (h : b = false) (y : Y) : if b = true then X else Y := by rw [if_neg (by simp [h])]; exact y
theorem seqm {t u : TS} {D : Ends} {σ : L2.St} {H : Hp} (R : L2.St → Hp → Prop) (h1 : ∀ D', (∀ σ H, R σ H → D'.nx σ H) → t D' σ H) (h2 : ∀ σ H, R σ H → u D σ H) : tSeq t u D σ H := h1 { D with nx := u D } h2
def cn_draw : Con Int := { args := fun m => [.pen, I m], pre := fun m => 0 < m ∧ m.natAbs < 2 ^ 2000, post := fun m r => ∃ n : Int, 0 ≤ n ∧ n < m ∧ r = I n }
theorem ok__law_draw (T : Txt K mg A) : FnOk P w K mg base CX0 1 A.a__law_draw A.d__law_draw ["pen", "many"] (spC K cn_draw) := by
  refine T.F__law_draw.ok sc__law_draw (fun vs H Q E h => ?_) fun cdv A' outer s H vs Q E hr h => ⟨_, (pss_cons (ps_dput (hu_of hr) (pv 0) pe_str (pe_op op_add (pe_dget (hu_of hr) (pv 0) pe_str (fun _ _ => rfl)) pe_int) rfl)
  (pss_cons (ps_if (PW.pt (pw_and (pt_cmpR op_eq (pe_dget (hu_of hr) (pv 0) pe_str (fun _ _ => rfl)) pe_int (nomark _)) (pw_and1 (pt_cmpR op_lt (pe_dget (hu_of hr) (pv 0) pe_str (fun _ _ => rfl)) (pe_callB call_len_seq (by rfl) T.m_len b_len (pa_cons (pe_dget (hu_of hr) (pv 0) pe_str (fun _ _ => rfl)) pa_nil)) (nomark _)))))
  (pss_cons (ps_set (i := 2) sc__law_draw.nd rfl (Or.inl rfl) (pe_ix ix_list (pe_dget (hu_of hr) (pv 0) pe_str (fun _ _ => rfl)) (pe_dget (hu_of hr) (pv 0) pe_str (fun _ _ => rfl)) (fun _ _ => rfl)))
  (pss_cons (ps_dput (hu_of hr) (pv 0) pe_str (pe_op op_add (pe_dget (hu_of hr) (pv 0) pe_str (fun _ _ => rfl)) pe_int) rfl)
  (pss_one (ps_if (pt_cmpR op_ge (pv 2) (pe_op op_pow pe_int pe_int) (nomark _))
  (pss_one (ps_dput (hu_of hr) (pv 0) pe_str (pe_op op_sub (pv 2) (pe_op op_pow pe_int pe_int)) rfl))
  (pss_one (ps_dput (hu_of hr) (pv 0) pe_str (pe_op op_mod (pe_callTy call_int1 (by rfl) T.m_int b_int (pa_cons (pe_op op_add (pe_op op_mul (pe_dget (hu_of hr) (pv 0) pe_str (fun _ _ => rfl)) pe_int) (pv 2)) pa_nil)) pe_int) rfl))))))
  pss_nil)
  (pss_cons (ps_if (pt_cmpR op_gt (pe_dget (hu_of hr) (pv 0) pe_str (fun _ _ => rfl)) pe_int (nomark _))
  (pss_cons (ps_set (i := 3) sc__law_draw.nd rfl (Or.inl rfl) (pe_op op_mod (pe_callTy call_int1 (by rfl) T.m_int b_int (pa_cons (pe_dget (hu_of hr) (pv 0) pe_str (fun _ _ => rfl)) pa_nil)) (pv 1)))
  (pss_cons (ps_dput (hu_of hr) (pv 0) pe_str (pe_op op_fdivW (pe_dget (hu_of hr) (pv 0) pe_str (fun _ _ => rfl)) (pv 1)) rfl)
  (pss_one (ps_ret (pv 3)))))
  pss_nil)
  (pss_cons (ps_set (i := 4) sc__law_draw.nd rfl (Or.inl rfl) (pe_op op_mod (pe_callTy call_int1 (by rfl) T.m_int b_int (pa_cons (pe_op op_add (pe_op op_add (pe_op op_mul (pe_dget (hu_of hr) (pv 0) pe_str (fun _ _ => rfl)) pe_int) (pe_op op_mul (pe_dget (hu_of hr) (pv 0) pe_str (fun _ _ => rfl)) pe_int)) pe_int) pa_nil)) pe_int))
  (pss_cons (ps_set (i := 4) sc__law_draw.nd rfl (Or.inl rfl) (pe_op op_mod (pe_callTy call_int1 (by rfl) T.m_int b_int (pa_cons (pe_op op_add (pe_op op_add (pe_op op_mul (pv 4) (pv 4)) (pe_op op_mul pe_int (pv 4))) (pe_dget (hu_of hr) (pv 0) pe_str (fun _ _ => rfl))) pa_nil)) pe_int))
  (pss_cons (ps_dput (hu_of hr) (pv 0) pe_str (pe_op op_mod (pe_callTy call_int1 (by rfl) T.m_int b_int (pa_cons (pe_op op_add (pe_op op_mul (pv 4) pe_int) pe_int) pa_nil)) pe_int) rfl)
  (pss_one (ps_ret (pe_op op_mod (pe_callTy call_int1 (by rfl) T.m_int b_int (pa_cons (pe_op op_fdiv (pv 4) pe_int) pa_nil)) (pv 1)))))))))), ?_⟩
  · obtain ⟨p, a, _, r, _⟩ := h
    rw [r.length]; rfl
  · obtain ⟨p, m, pk, r, ⟨hm, hb⟩, post, _⟩ := h
    obtain ⟨v1, v2, rfl, a1, a2⟩ := all2 r
    obtain ⟨q, hq, rfl⟩ := res_pen.1 a1
    have a2 := Im.intv a2.2
    subst a2
    obtain ⟨l, ns, at_, dg, ct, fo, h1, h2, h3, h4, h5⟩ := pk q hq
    have hlq : l ≠ q := by
      intro z
      rw [z, h1] at h2; cases h2
    have S0 : PSt H q l ns H at_ dg ct fo := ⟨h1, h2, hlq, h4, h5, fun a o _ e => e⟩
    -- the result of an end
    have fin : ∀ (n : Int) (H' : Hp) (a' d' c' f' : Int), 0 ≤ n → n < m → PSt H q l ns H' a' d' c' f' → Q (.int n) H' := fun n H' a' d' c' f' n0 n1 S => by
      refine post (I n) _ H' ⟨n, n0, n1, rfl⟩ ⟨fun a o np e => S.same a o (fun z => np (by rw [hq, z])) e, fun q' l' e' k => ?_⟩ (res_im.2 (.int n))
      rw [hq] at e'; cases e'
      obtain ⟨ns', y1, y2, y3, y4, g1, g2, g3, g4, g5⟩ := k
      rw [h1] at g1
      have el : l = l' := by
        have := congrArg (fun o => match o with | some (HO.dK ((_, v) :: _)) => some v | _ => none) g1
        simpa [penD] using this
      subst el
      exact ⟨ns, a', d', c', f', S.h, S.hl, h3, S.a0, S.d0⟩
    -- count
    refine seqm (fun σ H' => σ = [some (.ref q), some (.int m), none, none, none] ∧ PSt H q l ns H' at_ dg (ct + 1) fo) (fun D hD => ?_) ?_
    · refine rd rfl S0.h getN ?_
      refine ⟨_, _, rfl, rfl, ?_⟩
      refine ⟨_, rfl, q, _, rfl, DPut.k (k := kN) S0.h penLen, ?_⟩
      exact hD _ _ ⟨rfl, S0.put putN h4 h5⟩
    rintro σ1 H1 ⟨rfl, S1⟩
    refine seqm (fun σ H' => ∃ e a' d' f', σ = [some (.ref q), some (.int m), e, none, none] ∧ PSt H q l ns H' a' d' (ct + 1) f') (fun D hD => ?_) ?_
    · -- if pen['digits'] == 0 and pen['at'] < len(pen['cells'])
      refine rd rfl S1.h getD ?_
      refine ⟨rfl, _, rfl, ?_⟩
      by_cases c1 : dg = 0
      · refine ifT (show decide (V.int dg = V.int 0) = true by simp [c1]) ?_
        refine rd rfl S1.h getA ?_
        refine rd rfl S1.h getC ?_
        refine ⟨l, _, rfl, .inl (.inl (.inl S1.hl)), ?_⟩
        refine ⟨_, _, rfl, rfl, _, rfl, ?_⟩
        show if (decide (at_ < (((ns.map V.int).length : Nat) : Int))) = true then _ else _
        rw [List.length_map]
        by_cases c2 : at_ < (ns.length : Int)
        · refine ifT (decide_eq_true c2) ?_
          obtain ⟨i, rfl⟩ := Int.eq_ofNat_of_zero_le h4
          have hi : i < ns.length := by omega
          -- cell
          refine seqm (fun σ H' => σ = [some (.ref q), some (.int m), some (.int ns[i]), none, none] ∧ PSt H q l ns H' i dg (ct + 1) fo) (fun D hD => ?_) ?_
          · refine rd rfl S1.h getC ?_
            refine rd rfl S1.h getA ?_
            refine ⟨l, _, _, _, rfl, rfl, .inl (.inl S1.hl), ?_, hD _ _ ⟨rfl, S1⟩⟩
            exact atI_nat (xs := ns.map V.int) (by simpa using hi) |>.trans (by simp)
          rintro σ2 H2 ⟨rfl, S2⟩
          refine seqm (fun σ H' => σ = [some (.ref q), some (.int m), some (.int ns[i]), none, none] ∧ PSt H q l ns H' ((i : Int) + 1) dg (ct + 1) fo) (fun D hD => ?_) ?_
          · refine rd rfl S2.h getA ?_
            refine ⟨_, _, rfl, rfl, ?_⟩
            refine ⟨_, rfl, q, _, rfl, DPut.k (k := kA) S2.h penLen, ?_⟩
            exact hD _ _ ⟨rfl, S2.put putA (by omega) h5⟩
          rintro σ3 H3 ⟨rfl, S3⟩
          refine ⟨_, rfl, _, _, rfl, rfl, ⟨by decide, by decide, by decide⟩, _, _, rfl, rfl, _, rfl, ?_⟩
          by_cases c3 : (10 : Int) ^ (18 : Int).toNat ≤ ns[i]
          · refine ifT (decide_eq_true c3) ?_
            refine ⟨_, rfl, _, _, rfl, rfl, ⟨by decide, by decide, by decide⟩, _, _, rfl, rfl, ?_⟩
            refine ⟨_, rfl, q, _, rfl, DPut.k (k := kD) S3.h penLen, ?_⟩
            exact hD _ _ ⟨_, _, _, _, rfl, S3.put putD (by omega) (by omega)⟩
          · refine ifF (decide_eq_false c3) ?_
            refine rd rfl S3.h getF ?_
            refine ⟨_, _, rfl, rfl, .inr ⟨by decide, by decide⟩, ?_⟩
            refine ⟨_, rfl, _, _, rfl, rfl, ?_⟩
            refine .inl ⟨_, rfl, _, _, rfl, rfl, (by show (0 : Int) < _; decide), ?_⟩
            refine ⟨_, rfl, q, _, rfl, DPut.k (k := kF) S3.h penLen, ?_⟩
            exact hD _ _ ⟨_, _, _, _, rfl, S3.put putF' (by omega) h5⟩
        · refine ifF (decide_eq_false c2) ?_
          exact hD _ _ ⟨_, _, _, _, rfl, S1⟩
      · refine ifF (show decide (V.int dg = V.int 0) = false by simp [c1]) ?_
        refine ifF rfl ?_
        exact hD _ _ ⟨_, _, _, _, rfl, S1⟩
    rintro σ2 H2 ⟨e, a', d', f', rfl, S2⟩
    refine rd rfl S2.h getD ?_
    refine ⟨_, _, rfl, rfl, _, rfl, ?_⟩
    by_cases c1 : 0 < d'
    · refine ifT (decide_eq_true c1) ?_
      refine rd rfl S2.h getD ?_
      refine .inl ⟨_, rfl, _, rfl, _, _, rfl, rfl, hm, ?_⟩
      refine rd rfl S2.h getD ?_
      refine ⟨_, rfl, _, _, rfl, rfl, ⟨hm, Nat.lt_of_lt_of_le (PySem.Flt.log2_lt_of (by decide) hb) (by decide)⟩, ?_⟩
      refine ⟨_, rfl, q, _, rfl, DPut.k (k := kD) S2.h penLen, ?_⟩
      refine ⟨_, rfl, fin _ _ _ _ _ _ (Int.emod_nonneg _ (by omega)) (Int.emod_lt_of_pos _ hm) (S2.put putD S2.a0 (Int.ediv_nonneg S2.d0 (by omega)))⟩
    · refine ifF (decide_eq_false c1) ?_
      show tSeq _ _ _ _ _
      -- blend, twice
      refine rd rfl S2.h getF ?_
      refine ⟨_, _, rfl, rfl, .inr ⟨by decide, by decide⟩, ?_⟩
      refine rd rfl S2.h getN ?_
      refine ⟨_, _, rfl, rfl, .inr ⟨by decide, by decide⟩, _, _, rfl, rfl, _, _, rfl, rfl, .inl ⟨_, rfl, _, _, rfl, rfl, (by show (0 : Int) < _; decide), ?_⟩⟩
      generalize hb1 : (f' * 48271 + (ct + 1) * 7919 + 13) % 2147483647 = b1
      have hb1 : 0 ≤ b1 ∧ b1 < 2147483647 := by rw [← hb1]; exact ⟨Int.emod_nonneg _ (by decide), Int.emod_lt_of_pos _ (by decide)⟩
      refine ⟨_, rfl, _, rfl, _, _, rfl, rfl, .inl ⟨by omega, by omega⟩, ?_⟩
      refine ⟨_, rfl, _, _, rfl, rfl, .inl ⟨by decide, by decide⟩, _, _, rfl, rfl, ?_⟩
      refine rd rfl S2.h getN ?_
      refine ⟨_, _, rfl, rfl, .inl ⟨_, rfl, _, _, rfl, rfl, (by show (0 : Int) < _; decide), ?_⟩⟩
      refine ⟨_, rfl, _, _, rfl, rfl, .inr ⟨by decide, by decide⟩, _, _, rfl, rfl, .inl ⟨_, rfl, _, _, rfl, rfl, (by show (0 : Int) < _; decide), ?_⟩⟩
      refine ⟨_, rfl, q, _, rfl, DPut.k (k := kF) S2.h penLen, ?_⟩
      refine ⟨_, rfl, _, _, rfl, rfl, ⟨by decide, by decide⟩, .inl ⟨_, rfl, _, rfl, _, _, rfl, rfl, hm, ?_⟩⟩
      exact fin _ _ _ _ _ _ (Int.emod_nonneg _ (by omega)) (Int.emod_lt_of_pos _ hm) (S2.put putF' S2.a0 S2.d0)
theorem merge_pen (l : Addr) (f : Int) : mergeK [] [(kC, .ref l), (kA, .int 0), (kD, .int 0), (kN, .int 0), (kF, .int f)] = penD l 0 0 0 f := by
  unfold mergeK
  show putK (putK (putK (putK (putK [] kC (.ref l)) kA (.int 0)) kD (.int 0)) kN (.int 0)) kF (.int f) = _
  rw [putK_new (kvs := []) _ (valV_nil)]
  rw [putK_new (k := kA) _ (by rw [List.nil_append, valV_neg neCA]; rfl)]
  rw [putK_new (k := kD) _ (by show valV [(kC, V.ref l), (kA, V.int 0)] kD = none; rw [valV_neg neCD, valV_neg neAD]; rfl)]
  rw [putK_new (k := kN) _ (by show valV [(kC, V.ref l), (kA, V.int 0), (kD, V.int 0)] kN = none; rw [valV_neg neCN, valV_neg neAN, valV_neg neDN]; rfl)]
  rw [putK_new (k := kF) _ (by show valV [(kC, V.ref l), (kA, V.int 0), (kD, V.int 0), (kN, V.int 0)] kF = none; rw [valV_neg neCF, valV_neg neAF, valV_neg neDF, valV_neg neNF]; rfl)]
  rfl
theorem v_pen_new {c : Cd} {Γ : List Ent} {i j : Nat} {ns : List Int} {f : Int} (hl : ns.length ≤ 63) (hi : Γ[i]? = some (.ro (ns.map PyData.int))) (hj : Γ[j]? = some (I f)) :
    VE c (tDisp [(tC (.str "cells"), tCB (rListOf c.K) (tCons (tVar i) tNil)), (tC (.str "at"), tC (.int 0)), (tC (.str "digits"), tC (.int 0)), (tC (.str "count"), tC (.int 0)), (tC (.str "fold"), tVar j)]) Γ .pn := fun H0 F σ H ev x Q' q => by
  intro a ha
  obtain ⟨s1, e1, _, y, vs, rfl, _, g, ms⟩ := ev.ent i _ hi
  obtain ⟨s2, e2, _, v2, rfl, m2⟩ := ev.ent j _ hj
  have m2 := Im.intv m2
  subst m2
  have evs := Ims.ints ms
  subst evs
  have sA : Stp c.p H (upd H a (.dK [])) := Stp.new ha
  refine ⟨_, e1, y, _, rfl, .inl (sqL_step sA ev.pok g), fun l hlN => ?_⟩
  have nla : l ≠ a := fun z => by rw [z, upd_same] at hlN; cases hlN
  have hlH : H l = none := by rw [← hlN, upd_ne nla]
  have hL : ∀ (o : HO) , upd (upd (upd H a (.dK [])) l (.lst (ns.map V.int))) a o l = some (.lst (ns.map V.int)) := fun o => by rw [upd_ne nla, upd_same]
  refine ⟨_, e2, ⟨by rw [upd_ne (Ne.symm nla), upd_same], [(kC, .ref l), (kA, .int 0), (kD, .int 0), (kN, .int 0), (kF, .int f)], rfl, (by show 5 ≤ 15; decide), ?_⟩⟩
  rw [merge_pen]
  refine q .pn _ _ rfl ⟨fun b o _ e => ?_, fun q' l' _ k => ?_⟩ ?_
  · rw [upd_ne (ne_of_none e ha), upd_ne (ne_of_none e hlH), upd_ne (ne_of_none e ha)]; exact e
  · obtain ⟨ns', x1, x2, x3, x4, g1, g2, r⟩ := k
    refine ⟨ns', x1, x2, x3, x4, ?_, ?_, r⟩
    · rw [upd_ne (ne_of_none g1 ha), upd_ne (ne_of_none g1 hlH), upd_ne (ne_of_none g1 ha)]; exact g1
    · rw [upd_ne (ne_of_none g2 ha), upd_ne (ne_of_none g2 hlH), upd_ne (ne_of_none g2 ha)]; exact g2
  · refine ⟨fun φ z => ?_, a, rfl, l, ns, 0, 0, 0, f, upd_same, hL _, hl, Int.le_refl _, Int.le_refl _⟩
    cases z
    exact ⟨a, _, rfl, trivial, ha, upd_same, trivial⟩
def cn_pen : Con (List Int) := { args := fun ns => [.ro (ns.map PyData.int)], pre := fun ns => ns.length ≤ 63, post := fun _ r => r = .pn }
theorem ok__law_pen (T : Txt K mg A) : FnOk P w K mg base CX0 1 A.a__law_pen A.d__law_pen ["script"] (spC K cn_pen) := by
  refine fn_ok cn_pen T.F__law_pen sc__law_pen (fun _ => rfl) fun cdv A' outer s H hr => ⟨_, (pss_cons (ps_set (i := 1) sc__law_pen.nd rfl (Or.inl rfl) pe_int)
  (pss_cons (ps_for PassesOwn.never rfl (pi_list (pv 0)) (pg_name (i := 2) sc__law_pen.nd rfl (Or.inl rfl))
  (pss_one (ps_set (i := 1) sc__law_pen.nd rfl (Or.inl rfl) (pe_op op_mod (pe_callTy call_int1 (by rfl) T.m_int b_int (pa_cons (pe_op op_add (pe_op op_mul (pv 1) pe_int) (pv 2)) pa_nil)) pe_int))))
  (pss_one (ps_ret (pe_disp (pps_cons pe_str (pe_callTy call_list_of (by rfl) T.m_list b_list (pa_cons (pv 0) pa_nil)) (pps_cons pe_str pe_int (pps_cons pe_str pe_int (pps_cons pe_str pe_int (pps_cons pe_str (pv 1) pps_nil))))) rfl rfl (by simp) (by decide)))))), fun p ns pre => ?_⟩
  refine ws_seq (ws_asg (we_v v_int ?_))
  refine ws_seq (ws_for (ds := ns.map PyData.int) i_ro (fun i Γ => ∃ (f : Int) (e : Ent), Γ = [.ro (ns.map PyData.int), I f, e]) (up_of ⟨0, .no, rfl⟩) ?_ ?_)
  · rintro i d Γ hd ⟨f, e, rfl⟩
    obtain ⟨z, rfl⟩ : ∃ z, d = .int z := by
      rw [List.getElem?_map] at hd
      cases h : ns[i]? with
      | none => rw [h] at hd; cases hd
      | some z => rw [h] at hd; exact ⟨z, (Option.some.inj hd).symm⟩
    refine g_name ?_
    have cm : CMul f 47 := .inr ⟨by decide, by decide⟩
    refine ws_asg (we_v (v_op (o_mod (by decide)) (v_cb n_int (a_cons (v_op o_add (v_op (o_mul cm) v_im v_int) v_im) a_nil)) v_int) ?_)
    exact up_of ⟨_, _, rfl⟩
  · rintro Γ ⟨f, e, rfl⟩
    exact ws_ret (we_v (v_pen_new pre rfl rfl) rfl)
/-! ### pick, wide -/
def cn_pick : Con (List PyData) := { args := fun ds => [.pen, .ro ds], pre := fun ds => 0 < ds.length ∧ ds.length < 1000000, post := fun ds r => ∃ d ∈ ds, r = .im d }
theorem we_ixL {c : Cd} {Γ : List Ent} {te tb : TE} {ds : List PyData} {Q : Ent → Prop} (h : VE c te Γ (.ro ds)) (k : WE c tb Γ fun r => ∃ i : Int, r = I i ∧ ∃ d, atI ds i = some d ∧ Q (.im d)) : WE c (tOp (rIxL c.K) te tb) Γ Q :=
  we_op (we_v h (k.mono fun r ⟨i, e, d, hd, q⟩ => by subst e; exact ⟨_, o_ixL hd, q⟩))
theorem ok__law_pick (T : Txt K mg A) : FnOk P w K mg base CX0 2 A.a__law_pick A.d__law_pick ["pen", "some"] (spC K cn_pick) := by
  have G__law_draw : FnOk P w K mg base CX0 1 A.a__law_draw A.d__law_draw ["pen", "many"] (spC K cn_draw) := ok__law_draw T
  refine fn_ok cn_pick T.F__law_pick sc__law_pick (fun _ => rfl) fun cdv A' outer s H hr => ⟨_, (pss_one (ps_ret (pe_ix ix_list (pv 1) (pe_call G__law_draw (hr.mono (by first | decide | omega)) (by rfl) T.g__law_draw T.k__law_draw T.b__law_draw .nil pass0 (pa_cons (pv 0) (pa_cons (pe_callB call_len_seq (by rfl) T.m_len b_len (pa_cons (pv 1) pa_nil)) pa_nil))) (fun _ _ => rfl)))), fun p ds ⟨h0, h1⟩ => ?_⟩
  refine ws_ret (we_ixL v_ro (w_call (ds.length : Int) (a_cons v_pen (a_cons (v_cb n_lenL (a_cons v_ro a_nil)) a_nil)) rfl ⟨by omega, ?_⟩ ?_ (fun _ h => h)))
  · have : (2 : Nat) ^ 20 ≤ 2 ^ 2000 := Nat.pow_le_pow_right (by decide) (by decide)
    have e : (2 : Nat) ^ 20 = 1048576 := by decide
    omega
  · rintro r ⟨n, n0, n1, rfl⟩
    obtain ⟨i, rfl⟩ := Int.eq_ofNat_of_zero_le n0
    have hi : i < ds.length := by omega
    exact ⟨_, rfl, ds[i], atI_nat hi, ds[i], List.getElem_mem hi, rfl⟩
def cn_wide : Con Nat := { args := fun n => [.pen, I n], pre := fun n => n ≤ 600, post := fun n r => ∃ z : Int, 0 ≤ z ∧ z < 10 ^ n ∧ r = I z }
theorem ok__law_wide (T : Txt K mg A) : FnOk P w K mg base CX0 2 A.a__law_wide A.d__law_wide ["pen", "figures"] (spC K cn_wide) := by
  have G__law_draw : FnOk P w K mg base CX0 1 A.a__law_draw A.d__law_draw ["pen", "many"] (spC K cn_draw) := ok__law_draw T
  refine fn_ok cn_wide T.F__law_wide sc__law_wide (fun _ => rfl) fun cdv A' outer s H hr => ⟨_, (pss_cons (ps_asg (pe_tup (pa_cons pe_int (pa_cons pe_int pa_nil))) (pg_tup (by rfl) (pgs_cons (pg_name (i := 2) sc__law_wide.nd rfl (Or.inl rfl)) (pgs_cons (pg_name (i := 3) sc__law_wide.nd rfl (Or.inl rfl)) pgs_nil))))
  (pss_cons (ps_for PassesOwn.never rfl (pi_range1 (by rfl) T.m_range (pa_cons (pe_op op_fdiv (pe_op op_add (pv 1) pe_int) pe_int) pa_nil)) (pg_name (i := 4) sc__law_wide.nd rfl (Or.inl rfl))
  (pss_one (ps_set (i := 2) sc__law_wide.nd rfl (Or.inl rfl) (pe_op op_add (pe_op op_mul (pv 2) (pe_op op_pow pe_int pe_int)) (pe_call G__law_draw (hr.mono (by first | decide | omega)) (by rfl) T.g__law_draw T.k__law_draw T.b__law_draw .nil pass0 (pa_cons (pv 0) (pa_cons (pe_op op_pow pe_int pe_int) pa_nil)))))))
  (pss_cons (ps_for PassesOwn.never rfl (pi_range1 (by rfl) T.m_range (pa_cons (pv 1) pa_nil)) (pg_name (i := 4) sc__law_wide.nd rfl (Or.inl rfl))
  (pss_one (ps_set (i := 3) sc__law_wide.nd rfl (Or.inl rfl) (pe_op op_mul (pv 3) pe_int))))
  (pss_one (ps_ret (pe_op op_mod (pe_callTy call_int1 (by rfl) T.m_int b_int (pa_cons (pv 2) pa_nil)) (pv 3))))))), fun p n hn => ?_⟩
  have hn : n ≤ 600 := hn
  refine ws_seq (ws_asgT (we_v (v_tup (ds := [.int 0, .int 1]) (a_cons v_int (a_cons v_int a_nil))) ⟨_, rfl, rfl, wg_name (wg_name (wg_nil ?_))⟩))
  refine ws_seq (ws_for (i_r1 (a_cons (v_op (o_fdiv ⟨by decide, by decide⟩) (v_op o_add v_im v_int) v_int) a_nil) (by omega) (by omega)) (fun i Γ => ∃ (f : Int) (e : Ent), Γ = [.pen, I n, I f, I 1, e] ∧ 0 ≤ f) (up_of ⟨0, .no, rfl, Int.le_refl _⟩) ?_ ?_)
  · rintro i d Γ hd ⟨f, e, rfl, hf⟩
    refine g_name ?_
    have cm : CMul f ((10 : Int) ^ (6 : Int).toNat) := .inr ⟨by decide, by decide⟩
    refine ws_asg (we_op (we_v (v_op (o_mul cm) v_im (v_op (o_pow ⟨by decide, by decide, by decide⟩) v_int v_int)) (w_call ((10 : Int) ^ (6 : Int).toNat) (a_cons v_pen (a_cons (v_op (o_pow ⟨by decide, by decide, by decide⟩) v_int v_int) a_nil)) rfl ⟨by decide, ?_⟩ ?_ (fun _ h => h))))
    · have : (2 : Nat) ^ 20 ≤ 2 ^ 2000 := Nat.pow_le_pow_right (by decide) (by decide)
      have e : (2 : Nat) ^ 20 = 1048576 := by decide
      show (10 ^ (6 : Int).toNat : Int).natAbs < _
      have e2 : (10 ^ (6 : Int).toNat : Int).natAbs = 1000000 := by decide
      omega
    · rintro r ⟨z, z0, z1, rfl⟩
      refine ⟨_, o_add, up_of ⟨f * 10 ^ (6 : Int).toNat + z, _, rfl, ?_⟩⟩
      have : 0 ≤ f * 10 ^ (6 : Int).toNat := Int.mul_nonneg hf (by decide)
      omega
  · rintro Γ ⟨f, e, rfl, hf⟩
    refine ws_seq (ws_for (i_r1 (a_cons v_im a_nil) (by omega) (by omega)) (fun i Γ => ∃ (e : Ent), Γ = [.pen, I n, I f, I ((10 : Int) ^ i), e]) (up_of ⟨e, rfl⟩) ?_ ?_)
    · rintro i d Γ hd ⟨e, rfl⟩
      refine g_name ?_
      have cm : CMul ((10 : Int) ^ i) 10 := .inr ⟨by decide, by decide⟩
      refine ws_asg (we_v (v_op (o_mul cm) v_im v_int) ?_)
      exact up_of ⟨_, by rw [Int.pow_succ]; rfl⟩
    · rintro Γ ⟨e, rfl⟩
      have hl : (rangeD 0 ((n : Int)).toNat).length = n := by unfold rangeD; simp
      rw [hl]
      have hp : (0 : Int) < 10 ^ n := Int.pow_pos (by decide)
      exact ws_ret (we_v (v_op (o_mod hp) (v_cb n_int (a_cons v_im a_nil)) v_im) ⟨_, Int.emod_nonneg _ (by omega), Int.emod_lt_of_pos _ hp, rfl⟩)
theorem ok_BadNumber (T : Txt K mg A) : FnOk P w K mg base CX0 1 A.ai_BadNumber A.di_BadNumber ["self", "what", "number"] (spInit A.c_BadNumber ["what", "number"]) := by
  refine T.F_BadNumber.ok sci_BadNumber (fun vs H Q E h => ?_) fun cdv A' outer s H vs Q E hr h => ⟨_, (pss_cons (ps_ost (pv 0) (pv 1) rfl)
  (pss_one (ps_ost (pv 0) (pv 2) rfl))), ?_⟩
  · obtain ⟨a, ws, rfl, h, _⟩ := h
    show ws.length + 1 = 3
    rw [h]; rfl
  · obtain ⟨a, ws, rfl, h, ha, k⟩ := h
    match ws, h, k with
    | [w1, w2], _, k => exact init2 T.x_BadNumber T.xn_BadNumber_what T.xn_BadNumber_number ha fun d H' h1 h2 h3 h4 h5 => k d H' h1 h2 h3 h4 h5
def errN (A : Adr) (what : Str) (d : PyData) : Err := (A.c_BadNumber, [("number", d), ("what", .str what)])
def goodB : PyData → Bool
  | .int i => decide (1 ≤ i)
  | _ => false
def cn_sign_by (A : Adr) : Con (PyData × PyData) :=
  { args := fun d => [.im d.1, .im d.2], pre := fun _ => True
    post := fun d r => ∃ (t : Int) (b : Nat), d = (.int t, .int b) ∧ 0 < b ∧ r = I (Jac.kr t b)
    exc := fun d e => (isInt d.1 = false ∧ e = errN A "top" d.1) ∨ (isInt d.1 = true ∧ goodB d.2 = false ∧ e = errN A "bottom" d.2) }
theorem ok_sign_by (T : Txt K mg A) : FnOk P w K mg base (L2.CX P w) 3 A.a_sign_by A.d_sign_by ["top", "bottom"] (spC K (cn_sign_by A)) := by
  have G_is_integer : FnOk P w K mg base CX0 1 A.a_is_integer A.d_is_integer ["value"] (spC K cn_is_integer) := ok_is_integer T
  have G_sign_in : FnOk P w K mg base CX0 2 A.a_sign_in A.d_sign_in ["top", "bottom"] (spC K cn_sign_in) := ok_sign_in T
  have G_BadNumber : FnOk P w K mg base CX0 1 A.ai_BadNumber A.di_BadNumber ["self", "what", "number"] (spInit A.c_BadNumber ["what", "number"]) := ok_BadNumber T
  refine fn_okX (cn_sign_by A) T.F_sign_by sc_sign_by (fun _ => rfl) fun cdv A' outer s H E hr => ⟨_, (pss_cons (ps_if (pt_not (pt_val (pe_call G_is_integer (hr.mono (by first | decide | omega)) (by rfl) T.g_is_integer T.k_is_integer T.b_is_integer .nil pass0 (pa_cons (pv 0) pa_nil))))
  (pss_one (ps_raise rfl (takes_of rfl rfl rfl rfl) (pmk_oex T.x_BadNumber T.xi_BadNumber T.xt_BadNumber G_BadNumber (hr.mono (by first | decide | omega)) T.xb_BadNumber .nil pass0 (by rfl) T.g_BadNumber (pa_cons pe_str (pa_cons (pv 0) pa_nil)))))
  pss_nil)
  (pss_cons (ps_if (PW.pt (pw_or (pt_not (pt_val (pe_call G_is_integer (hr.mono (by first | decide | omega)) (by rfl) T.g_is_integer T.k_is_integer T.b_is_integer .nil pass0 (pa_cons (pv 1) pa_nil)))) (pw_or1 (pt_cmpR op_lt (pv 1) pe_int (nomark _)))))
  (pss_one (ps_raise rfl (takes_of rfl rfl rfl rfl) (pmk_oex T.x_BadNumber T.xi_BadNumber T.xt_BadNumber G_BadNumber (hr.mono (by first | decide | omega)) T.xb_BadNumber .nil pass0 (by rfl) T.g_BadNumber (pa_cons pe_str (pa_cons (pv 1) pa_nil)))))
  pss_nil)
  (pss_one (ps_ret (pe_call G_sign_in (hr.mono (by first | decide | omega)) (by rfl) T.g_sign_in T.k_sign_in T.b_sign_in .nil pass0 (pa_cons (pv 0) (pa_cons (pv 1) pa_nil))))))), fun p ⟨d, e⟩ pre => ?_⟩
  refine ws_seq (s_if (t_not (t_B (v_call d (a_cons v_im a_nil) rfl trivial (fun r h => h) (fun _ h => h)))) (fun h => ?_) fun h => ?_)
  · have h : isInt d = false := by simpa using h
    exact ws_raise (ds := [.str "top", d]) (a_cons v_str (a_cons v_im a_nil)) rfl (by show 2 ≤ 1000; decide) (.inl ⟨h, rfl⟩)
  · have h : isInt d = true := by simpa using h
    obtain ⟨t, rfl⟩ := isInt_of h
    refine ws_next ?_
    cases h2 : isInt e with
    | false =>
      have gb : goodB e = false := by
        cases e with
        | int i => exact absurd h2 (by simp [isInt, isK])
        | _ => rfl
      refine ws_seq (ws_if (wt_or (wt_not (wt_v (t_B (v_call e (a_cons v_im a_nil) rfl trivial (fun r h => h) (fun _ h => h))) ⟨fun z => ?_, fun z => ⟨fun _ => ?_, fun z => by cases z⟩⟩))))
      · rw [h2] at z; cases z
      · exact ws_raise (ds := [.str "bottom", e]) (a_cons v_str (a_cons v_im a_nil)) rfl (by show 2 ≤ 1000; decide) (.inr ⟨h, gb, rfl⟩)
    | true =>
      obtain ⟨j, rfl⟩ := isInt_of h2
      refine ws_seq (s_if (t_or (t_not (t_B (v_call (.int j) (a_cons v_im a_nil) rfl trivial (fun r h => h) (fun _ h => h)))) fun _ => t_test (v_op o_lt v_im v_int)) (fun h3 => ?_) fun h3 => ?_)
      · rw [h2] at h3
        have h3 : j < 1 := by simpa using h3
        exact ws_raise (ds := [.str "bottom", .int j]) (a_cons v_str (a_cons v_im a_nil)) rfl (by show 2 ≤ 1000; decide) (.inr ⟨h, decide_eq_false (by omega), rfl⟩)
      · rw [h2] at h3
        have h3 : ¬ j < 1 := by simpa using h3
        obtain ⟨b, rfl⟩ := Int.eq_ofNat_of_zero_le (show 0 ≤ j by omega)
        have hb : 0 < b := by omega
        refine ws_next (ws_ret (w_call (t, b) (a_cons v_im (a_cons v_im a_nil)) rfl hb (fun r h => ⟨t, b, rfl, hb, h⟩) (fun _ h => h)))
/-- a call with good numbers -/
theorem c_sign {c : Cd} {tA : TA} {Γ : List Ent} {E : XK} {t : Int} {b : Nat} (hb : 0 < b) (h : VA c tA Γ [I t, I (b : Int)]) : VE c (tCall (spC c.K (cn_sign_by A)) [] E tA) Γ (I (Jac.kr t b)) := by
  refine v_call (.int t, .int b) h rfl trivial (fun r ⟨t', b', e, _, er⟩ => ?_) fun e he => ?_
  · cases e; exact er
  · rcases he with ⟨h1, _⟩ | ⟨_, h1, _⟩
    · exact absurd h1 (by simp [isInt, isK])
    · have : ¬ (1 : Int) ≤ b := of_decide_eq_false h1
      omega
theorem okDue_int (n : Nat) (i : Int) : okDue (n + 1) (.int i) := by unfold okDue; trivial
theorem small_lt {n : Nat} (h : n < 1048576) : n < 2 ^ 2000 := by
  have : (2 : Nat) ^ 20 ≤ 2 ^ 2000 := Nat.pow_le_pow_right (by decide) (by decide)
  have e : (2 : Nat) ^ 20 = 1048576 := by decide
  omega
theorem bit_lt {a b : Nat} {z : Int} (h0 : 0 ≤ z) (h : z < 10 ^ a) (hb : 10 ^ a ≤ (2 : Nat) ^ b) : z.natAbs < 2 ^ b := by
  have e : ((10 ^ a : Nat) : Int) = (10 : Int) ^ a := by simp
  have : (z.natAbs : Int) < ((10 ^ a : Nat) : Int) := by rw [e]; omega
  omega
theorem t30 : 10 ^ 30 ≤ (2 : Nat) ^ 700 := by decide +kernel
theorem kr_sg {b : Nat} {t : Int} (h : 0 < b) : Sg (Jac.kr t b) := by
  have := @Jac.kr_zero_one b t h
  by_cases z : Int.gcd t b = 1
  · rcases this.1 z with y | y <;> rw [y]
    · exact .inr (.inl rfl)
    · exact .inr (.inr rfl)
  · rw [this.2 z]; exact .inl rfl
/-- BadNumber(what, number) -/
def ceN (A : Adr) (post : Str × PyData → Ent → Prop) : ConE (Str × PyData) := { cl := fun _ => A.c_BadNumber, fs := fun a => [("number", a.2), ("what", .str a.1)], pre := fun a => Shw a.2, post := post }
def kdN (a : Str × PyData) : PyData := .tuple [.str "number", .str a.1, .str a.2.shown]
def ce_more (A : Adr) : ConE (Str × PyData) := ceN A fun _ r => r = .ls []
def ce_kinds (A : Adr) : ConE (Str × PyData) := ceN A fun a r => r = .ls [kdN a]
theorem ok__law_more_kinds (T : Txt K mg A) : FnE P w K mg base 1 A.a__law_more_kinds A.d__law_more_kinds ["e"] (spE K (ce_more A)) := by
  refine fn_okC (ce_more A) T.F__law_more_kinds sc__law_more_kinds rfl fun cdv A' outer s H pa oe dd p a gd hr hz hf pre => ?_
  have hu64 : (A'.deeper (PyProof.Rows.envOfC "_law_more_kinds" (defScope s__law_more_kinds) s.heap.objs.size A.a__law_more_kinds cdv)).units + 64 < cLine := by have := hr.un; omega
  have hp : (pa, oe) ∈ [(pa, oe)] := List.mem_singleton.mpr rfl
  refine ⟨_, (pss_cons (ps_set (i := 1) sc__law_more_kinds.nd rfl (Or.inl rfl) (pe_lst pa_nil))
  (pss_cons (ps_if (pt_val (pe_callB (call_isE hp hz hf) (by rfl) T.m_isinstance b_isinstance (pa_cons (pv 0) (pa_cons (pe_glob (v := .ref A.c_NoName) (by rfl) T.g_NoName rfl) pa_nil))))
  (pss_one (ps_expr (pe_bm PySem.F.plainAttrs_list PySem.F.slot_list_append PySem.F.type_list_append mt_append (pv 1) (pa_cons (pe_tup (pa_cons pe_str (pa_cons (pe_callB (call_reprD gd hu64) (by rfl) T.m_repr b_repr (pa_cons (pe_ex hp hz hf (pv 0)) pa_nil)) pa_nil))) pa_nil))))
  pss_nil)
  (pss_cons (ps_if (pt_val (pe_callB (call_isE hp hz hf) (by rfl) T.m_isinstance b_isinstance (pa_cons (pv 0) (pa_cons (pe_glob (v := .ref A.c_TakenName) (by rfl) T.g_TakenName rfl) pa_nil))))
  (pss_one (ps_expr (pe_bm PySem.F.plainAttrs_list PySem.F.slot_list_append PySem.F.type_list_append mt_append (pv 1) (pa_cons (pe_tup (pa_cons pe_str (pa_cons (pe_callB (call_reprD gd hu64) (by rfl) T.m_repr b_repr (pa_cons (pe_ex hp hz hf (pv 0)) pa_nil)) pa_nil))) pa_nil))))
  pss_nil)
  (pss_cons (ps_if (pt_val (pe_callB (call_isE hp hz hf) (by rfl) T.m_isinstance b_isinstance (pa_cons (pv 0) (pa_cons (pe_glob (v := .ref A.c_Unlike) (by rfl) T.g_Unlike rfl) pa_nil))))
  (pss_one (ps_expr (pe_bm PySem.F.plainAttrs_list PySem.F.slot_list_append PySem.F.type_list_append mt_append (pv 1) (pa_cons (pe_tup (pa_cons pe_str (pa_cons (pe_ex hp hz hf (pv 0)) pa_nil))) pa_nil))))
  pss_nil)
  (pss_cons (ps_if (pt_val (pe_callB (call_isE hp hz hf) (by rfl) T.m_isinstance b_isinstance (pa_cons (pv 0) (pa_cons (pe_glob (v := .ref A.c_NotThere) (by rfl) T.g_NotThere rfl) pa_nil))))
  (pss_one (ps_expr (pe_bm PySem.F.plainAttrs_list PySem.F.slot_list_append PySem.F.type_list_append mt_append (pv 1) (pa_cons (pe_tup (pa_cons pe_str (pa_cons (pe_ex hp hz hf (pv 0)) pa_nil))) pa_nil))))
  pss_nil)
  (pss_cons (ps_if (pt_val (pe_callB (call_isE hp hz hf) (by rfl) T.m_isinstance b_isinstance (pa_cons (pv 0) (pa_cons (pe_glob (v := .ref A.c_TooMany) (by rfl) T.g_TooMany rfl) pa_nil))))
  (pss_one (ps_expr (pe_bm PySem.F.plainAttrs_list PySem.F.slot_list_append PySem.F.type_list_append mt_append (pv 1) (pa_cons (pe_tup (pa_cons pe_str (pa_cons (pe_ex hp hz hf (pv 0)) (pa_cons (pe_ex hp hz hf (pv 0)) (pa_cons (pe_ex hp hz hf (pv 0)) pa_nil))))) pa_nil))))
  pss_nil)
  (pss_cons (ps_if (pt_val (pe_callB (call_isE hp hz hf) (by rfl) T.m_isinstance b_isinstance (pa_cons (pv 0) (pa_cons (pe_glob (v := .ref A.c_NotKept) (by rfl) T.g_NotKept rfl) pa_nil))))
  (pss_one (ps_expr (pe_bm PySem.F.plainAttrs_list PySem.F.slot_list_append PySem.F.type_list_append mt_append (pv 1) (pa_cons (pe_tup (pa_cons pe_str (pa_cons (pe_ex hp hz hf (pv 0)) (pa_cons (pe_ex hp hz hf (pv 0)) pa_nil)))) pa_nil))))
  pss_nil)
  (pss_cons (ps_if (pt_val (pe_callB (call_isE hp hz hf) (by rfl) T.m_isinstance b_isinstance (pa_cons (pv 0) (pa_cons (pe_glob (v := .ref A.c_NothingToUndo) (by rfl) T.g_NothingToUndo rfl) pa_nil))))
  (pss_one (ps_expr (pe_bm PySem.F.plainAttrs_list PySem.F.slot_list_append PySem.F.type_list_append mt_append (pv 1) (pa_cons (pe_tup (pa_cons pe_str pa_nil)) pa_nil))))
  pss_nil)
  (pss_cons (ps_if (pt_val (pe_callB (call_isE hp hz hf) (by rfl) T.m_isinstance b_isinstance (pa_cons (pv 0) (pa_cons (pe_glob (v := .ref A.c_NothingToRedo) (by rfl) T.g_NothingToRedo rfl) pa_nil))))
  (pss_one (ps_expr (pe_bm PySem.F.plainAttrs_list PySem.F.slot_list_append PySem.F.type_list_append mt_append (pv 1) (pa_cons (pe_tup (pa_cons pe_str pa_nil)) pa_nil))))
  pss_nil)
  (pss_one (ps_ret (pv 1)))))))))))), ?_⟩
  refine ws_seq (ws_asg (we_v (v_lst (ds := []) a_nil) ?_))
  refine ws_seq (s_if (k := false) (t_B (v_cb (n_isE T.ef_BadNumber (.own _) T.is_BadNumber_NoName) (a_cons v_ex (a_cons v_c a_nil)))) (fun h => by cases h) fun _ => ws_next ?_)
  refine ws_seq (s_if (k := false) (t_B (v_cb (n_isE T.ef_BadNumber (.own _) T.is_BadNumber_TakenName) (a_cons v_ex (a_cons v_c a_nil)))) (fun h => by cases h) fun _ => ws_next ?_)
  refine ws_seq (s_if (k := false) (t_B (v_cb (n_isE T.ef_BadNumber (.own _) T.is_BadNumber_Unlike) (a_cons v_ex (a_cons v_c a_nil)))) (fun h => by cases h) fun _ => ws_next ?_)
  refine ws_seq (s_if (k := false) (t_B (v_cb (n_isE T.ef_BadNumber (.own _) T.is_BadNumber_NotThere) (a_cons v_ex (a_cons v_c a_nil)))) (fun h => by cases h) fun _ => ws_next ?_)
  refine ws_seq (s_if (k := false) (t_B (v_cb (n_isE T.ef_BadNumber (.own _) T.is_BadNumber_TooMany) (a_cons v_ex (a_cons v_c a_nil)))) (fun h => by cases h) fun _ => ws_next ?_)
  refine ws_seq (s_if (k := false) (t_B (v_cb (n_isE T.ef_BadNumber (.own _) T.is_BadNumber_NotKept) (a_cons v_ex (a_cons v_c a_nil)))) (fun h => by cases h) fun _ => ws_next ?_)
  refine ws_seq (s_if (k := false) (t_B (v_cb (n_isE T.ef_BadNumber (.own _) T.is_BadNumber_NothingToUndo) (a_cons v_ex (a_cons v_c a_nil)))) (fun h => by cases h) fun _ => ws_next ?_)
  refine ws_seq (s_if (k := false) (t_B (v_cb (n_isE T.ef_BadNumber (.own _) T.is_BadNumber_NothingToRedo) (a_cons v_ex (a_cons v_c a_nil)))) (fun h => by cases h) fun _ => ws_next ?_)
  exact ws_retV rfl rfl
theorem ok__law_kinds (T : Txt K mg A) : FnE P w K mg base 2 A.a__law_kinds A.d__law_kinds ["e"] (spE K (ce_kinds A)) := by
  have G__law_more_kinds : FnE P w K mg base 1 A.a__law_more_kinds A.d__law_more_kinds ["e"] (spE K (ce_more A)) := ok__law_more_kinds T
  refine fn_okC (ce_kinds A) T.F__law_kinds sc__law_kinds rfl fun cdv A' outer s H pa oe dd p a gd hr hz hf pre => ?_
  have hu64 : (A'.deeper (PyProof.Rows.envOfC "_law_kinds" (defScope s__law_kinds) s.heap.objs.size A.a__law_kinds cdv)).units + 64 < cLine := by have := hr.un; omega
  have hp : (pa, oe) ∈ [(pa, oe)] := List.mem_singleton.mpr rfl
  have hrE := hr
  refine ⟨_, (pss_cons (ps_set (i := 1) sc__law_kinds.nd rfl (Or.inl rfl) (pe_lst pa_nil))
  (pss_cons (ps_if (pt_val (pe_callB (call_isE hp hz hf) (by rfl) T.m_isinstance b_isinstance (pa_cons (pv 0) (pa_cons (pe_glob (v := .ref A.c_BadNumber) (by rfl) T.g_BadNumber rfl) pa_nil))))
  (pss_one (ps_expr (pe_bm PySem.F.plainAttrs_list PySem.F.slot_list_append PySem.F.type_list_append mt_append (pv 1) (pa_cons (pe_tup (pa_cons pe_str (pa_cons (pe_ex hp hz hf (pv 0)) (pa_cons (pe_callB (call_reprD gd hu64) (by rfl) T.m_repr b_repr (pa_cons (pe_ex hp hz hf (pv 0)) pa_nil)) pa_nil)))) pa_nil))))
  pss_nil)
  (pss_cons (ps_if (pt_val (pe_callB (call_isE hp hz hf) (by rfl) T.m_isinstance b_isinstance (pa_cons (pv 0) (pa_cons (pe_glob (v := .ref A.c_BadRow) (by rfl) T.g_BadRow rfl) pa_nil))))
  (pss_one (ps_expr (pe_bm PySem.F.plainAttrs_list PySem.F.slot_list_append PySem.F.type_list_append mt_append (pv 1) (pa_cons (pe_tup (pa_cons pe_str (pa_cons (pe_ex hp hz hf (pv 0)) (pa_cons (pe_callB (call_reprD gd hu64) (by rfl) T.m_repr b_repr (pa_cons (pe_ex hp hz hf (pv 0)) pa_nil)) pa_nil)))) pa_nil))))
  pss_nil)
  (pss_cons (ps_if (pt_val (pe_callB (call_isE hp hz hf) (by rfl) T.m_isinstance b_isinstance (pa_cons (pv 0) (pa_cons (pe_glob (v := .ref A.c_BadTable) (by rfl) T.g_BadTable rfl) pa_nil))))
  (pss_one (ps_expr (pe_bm PySem.F.plainAttrs_list PySem.F.slot_list_append PySem.F.type_list_append mt_append (pv 1) (pa_cons (pe_tup (pa_cons pe_str (pa_cons (pe_ex hp hz hf (pv 0)) pa_nil))) pa_nil))))
  pss_nil)
  (pss_cons (ps_if (pt_val (pe_callB (call_isE hp hz hf) (by rfl) T.m_isinstance b_isinstance (pa_cons (pv 0) (pa_cons (pe_glob (v := .ref A.c_BadQuadruple) (by rfl) T.g_BadQuadruple rfl) pa_nil))))
  (pss_one (ps_expr (pe_bm PySem.F.plainAttrs_list PySem.F.slot_list_append PySem.F.type_list_append mt_append (pv 1) (pa_cons (pe_tup (pa_cons pe_str (pa_cons (pe_ex hp hz hf (pv 0)) pa_nil))) pa_nil))))
  pss_nil)
  (pss_cons (ps_if (pt_val (pe_callB (call_isE hp hz hf) (by rfl) T.m_isinstance b_isinstance (pa_cons (pv 0) (pa_cons (pe_glob (v := .ref A.c_BadWord) (by rfl) T.g_BadWord rfl) pa_nil))))
  (pss_one (ps_expr (pe_bm PySem.F.plainAttrs_list PySem.F.slot_list_append PySem.F.type_list_append mt_append (pv 1) (pa_cons (pe_tup (pa_cons pe_str (pa_cons (pe_ex hp hz hf (pv 0)) (pa_cons (pe_callB (call_reprD gd hu64) (by rfl) T.m_repr b_repr (pa_cons (pe_ex hp hz hf (pv 0)) pa_nil)) pa_nil)))) pa_nil))))
  pss_nil)
  (pss_cons (ps_if (pt_val (pe_callB (call_isE hp hz hf) (by rfl) T.m_isinstance b_isinstance (pa_cons (pv 0) (pa_cons (pe_glob (v := .ref A.c_BadName) (by rfl) T.g_BadName rfl) pa_nil))))
  (pss_one (ps_expr (pe_bm PySem.F.plainAttrs_list PySem.F.slot_list_append PySem.F.type_list_append mt_append (pv 1) (pa_cons (pe_tup (pa_cons pe_str (pa_cons (pe_callB (call_reprD gd hu64) (by rfl) T.m_repr b_repr (pa_cons (pe_ex hp hz hf (pv 0)) pa_nil)) pa_nil))) pa_nil))))
  pss_nil)
  (pss_cons (ps_if (pt_val (pe_callB (call_isE hp hz hf) (by rfl) T.m_isinstance b_isinstance (pa_cons (pv 0) (pa_cons (pe_glob (v := .ref A.c_BadText) (by rfl) T.g_BadText rfl) pa_nil))))
  (pss_one (ps_expr (pe_bm PySem.F.plainAttrs_list PySem.F.slot_list_append PySem.F.type_list_append mt_append (pv 1) (pa_cons (pe_tup (pa_cons pe_str (pa_cons (pe_ex hp hz hf (pv 0)) (pa_cons (pe_ex hp hz hf (pv 0)) pa_nil)))) pa_nil))))
  pss_nil)
  (pss_cons (ps_if (pt_val (pe_callB (call_isE hp hz hf) (by rfl) T.m_isinstance b_isinstance (pa_cons (pv 0) (pa_cons (pe_glob (v := .ref A.c_NoPlace) (by rfl) T.g_NoPlace rfl) pa_nil))))
  (pss_one (ps_expr (pe_bm PySem.F.plainAttrs_list PySem.F.slot_list_append PySem.F.type_list_append mt_append (pv 1) (pa_cons (pe_tup (pa_cons pe_str (pa_cons (pe_ex hp hz hf (pv 0)) (pa_cons (pe_callB (call_reprD gd hu64) (by rfl) T.m_repr b_repr (pa_cons (pe_ex hp hz hf (pv 0)) pa_nil)) pa_nil)))) pa_nil))))
  pss_nil)
  (pss_one (ps_ret (pe_op op_cat (pv 1) (pe_callE G__law_more_kinds hrE gd hp hz hf (by rfl) T.g__law_more_kinds T.k__law_more_kinds T.b__law_more_kinds (pa_cons (pv 0) pa_nil)))))))))))))), ?_⟩
  obtain ⟨what, n⟩ := a
  refine ws_seq (ws_asg (we_v (v_lst (ds := []) a_nil) ?_))
  refine ws_seq (s_if (k := true) (t_B (v_cb (n_isE T.ef_BadNumber (.own _) T.is_BadNumber_BadNumber) (a_cons v_ex (a_cons v_c a_nil)))) (fun _ => s_app (ds := []) (d := kdN (what, n)) (v_tup (ds := [.str "number", .str what, .str n.shown]) (a_cons v_str (a_cons (v_exf T.ef_BadNumber T.xn_BadNumber_what v_ex (by rfl)) (a_cons (v_cb (n_repr pre) (a_cons (v_exf T.ef_BadNumber T.xn_BadNumber_number v_ex (by rfl)) a_nil)) a_nil))) (by show 3 ≤ 1000000; decide)) ?_ (by show 0 < 1000000; decide)) fun h => by cases h)
  refine ws_seq (s_if (k := false) (t_B (v_cb (n_isE T.ef_BadNumber (.own _) T.is_BadNumber_BadRow) (a_cons v_ex (a_cons v_c a_nil)))) (fun h => by cases h) fun _ => ws_next ?_)
  refine ws_seq (s_if (k := false) (t_B (v_cb (n_isE T.ef_BadNumber (.own _) T.is_BadNumber_BadTable) (a_cons v_ex (a_cons v_c a_nil)))) (fun h => by cases h) fun _ => ws_next ?_)
  refine ws_seq (s_if (k := false) (t_B (v_cb (n_isE T.ef_BadNumber (.own _) T.is_BadNumber_BadQuadruple) (a_cons v_ex (a_cons v_c a_nil)))) (fun h => by cases h) fun _ => ws_next ?_)
  refine ws_seq (s_if (k := false) (t_B (v_cb (n_isE T.ef_BadNumber (.own _) T.is_BadNumber_BadWord) (a_cons v_ex (a_cons v_c a_nil)))) (fun h => by cases h) fun _ => ws_next ?_)
  refine ws_seq (s_if (k := false) (t_B (v_cb (n_isE T.ef_BadNumber (.own _) T.is_BadNumber_BadName) (a_cons v_ex (a_cons v_c a_nil)))) (fun h => by cases h) fun _ => ws_next ?_)
  refine ws_seq (s_if (k := false) (t_B (v_cb (n_isE T.ef_BadNumber (.own _) T.is_BadNumber_BadText) (a_cons v_ex (a_cons v_c a_nil)))) (fun h => by cases h) fun _ => ws_next ?_)
  refine ws_seq (s_if (k := false) (t_B (v_cb (n_isE T.ef_BadNumber (.own _) T.is_BadNumber_NoPlace) (a_cons v_ex (a_cons v_c a_nil)))) (fun h => by cases h) fun _ => ws_next ?_)
  exact ws_ret (we_v (v_catV (ds := [kdN (what, n)]) (es := []) (by show 1 ≤ 1000000; decide) (v_callE (C := ce_more A) (what, n) (a_cons v_ex a_nil) pre (fun r h => h))) rfl)
/-! ### _law_fault -/
theorem fault_gives {A : Adr} {X : Cx} (T : Txt X.K X.mg A) (G__law_kinds : FnE X.prog X.w X.K X.mg X.base 2 A.a__law_kinds A.d__law_kinds ["e"] (spE X.K (ce_kinds A))) (gd : X.A.guards = some []) (hr0 : Room 4 X.A) {g : Addr} {cdg : Value} {q : Str} :
    LamX.GivesTo X ["call", "found", "e"] "_law_fault" (defScope s__law_fault) g cdg (defBody s__law_fault) "call" q (TFault X.K (ce_kinds A) kdN) := by
  intro f c' s H Q tl act hc h
  have hr := hr0.deeper (k := 3) (PyProof.Rows.envOfC "_law_fault" (defScope s__law_fault) s.heap.objs.size g cdg)
  have hrE : L2H.RoomH 2 (X.A.deeper (PyProof.Rows.envOfC "_law_fault" (defScope s__law_fault) s.heap.objs.size g cdg)) := L2H.roomH_of (hr.mono (by decide))
  refine ⟨_, pss_cons (ps_set (i := 1) sc__law_fault.nd rfl (Or.inl rfl) pe_non)
    (pss_cons (ps_try_as (i := 2) (tb := fun W => fun D σ H => ∃ Ech : XK, (∀ cls d σ' H', Ech cls d H' → σ'.length = 3 → W cls d σ' H') ∧ σ[0]? = some (some (.ref f)) ∧ H c' = some (LamX.CodeO c' q) ∧ tl Ech H (fun _ H1 => D.nx σ H1)) (Wout := fun _ _ _ _ => False)
      rfl rfl sc__law_fault.nd rfl rfl ⟨rfl, by decide, Or.inl T.g_BendError⟩ LamX.takes0
      (fun W pn xe tk _ => ⟨fun pins s' σ H' D I ⟨Ech, hW, h1, h2, h3⟩ => (pss_one (ps_expr (act _ pn xe Ech _ _ (takes_len tk) hW))).run pins s' σ H' D I ⟨h1, h2, h3⟩⟩)
      (fun pa oe cls d pn hz hf =>
        have hp : (pa, oe) ∈ (pa, oe) :: pn := List.mem_cons_self
        have hrE : L2H.RoomH 2 ((X.A.deeper (PyProof.Rows.envOfC "_law_fault" (defScope s__law_fault) s.heap.objs.size g cdg)).mark (some (.ref pa))) := ⟨hrE.dp, hrE.un⟩
        (pss_cons (ps_set (i := 1) sc__law_fault.nd rfl (Or.inl rfl) (pe_callE G__law_kinds hrE gd hp hz hf (by rfl) T.g__law_kinds T.k__law_kinds T.b__law_kinds (pa_cons (pv 2) pa_nil)))
  (pss_one (ps_set (i := 1) sc__law_fault.nd rfl (Or.inl rfl) (pe_ifExp (PW.pt (pw_and (pt_cmpR op_eq (pe_callB (r := rLen X.K) call_len_seq (by rfl) T.m_len b_len (pa_cons (pv 1) pa_nil)) pe_int (nomark _)) (pw_and1 (pt_val (pe_callB (r := rIsE X.K pa cls d) (call_isE hp hz hf) (by rfl) T.m_isinstance b_isinstance (pa_cons (pv 2) (pa_cons (pe_bltn (v := .ty "ValueError") (by rfl) T.m_ValueError b_ValueError rfl) pa_nil))))))) (pe_ix (r := rIxL X.K) ix_list (pv 1) pe_int (fun _ _ => rfl)) (pe_tup (pa_cons pe_str (pa_cons (pe_callB (r := rLen X.K) call_len_seq (by rfl) T.m_len b_len (pa_cons (pv 1) pa_nil)) pa_nil)))))))))
    (pss_one (ps_ret (pv 1)))), ?_⟩
  refine ⟨EFault X.K (ce_kinds A) kdN Q, fun cls d σ' H' he hl => ?_, rfl, hc, h _ fun v H' hq => ⟨_, rfl, hq⟩⟩
  obtain ⟨p, a, dd, rfl, rfl, pk, ex, pre, k⟩ := he
  obtain ⟨x0, x1, x2, rfl⟩ : ∃ x0 x1 x2, σ' = [x0, x1, x2] := by
    match σ', hl with
    | [x0, x1, x2], _ => exact ⟨x0, x1, x2, rfl⟩
  refine ⟨true, T.ex_BadNumber, fun _ pa hpa => ?_, fun z => by cases z⟩
  have ev : Ev X.K p H' (fun _ => none) [.no, .no, .ex pa dd ((ce_kinds A).fs a)] [x0, x1, some (.ref pa)] H' := by
    refine ⟨fun i e g => ?_, fun i j b e1 e2 _ gi _ hd _ _ _ => ?_, Stp.refl _ _, pk, (fun _ _ z => by cases z), fun _ _ => rfl⟩
    · match i, g with
      | 0, g => cases g; exact ⟨_, rfl, (fun φ z => by cases z), trivial⟩
      | 1, g => cases g; exact ⟨_, rfl, (fun φ z => by cases z), trivial⟩
      | 2, g => cases g; exact ⟨_, rfl, (fun φ z => by cases z), rfl, ex⟩
    · match i, gi with
      | 0, gi => cases gi; cases hd
      | 1, gi => cases gi; cases hd
      | 2, gi => cases gi; cases hd
  refine WS.run (c := c0 X.K p) (P := { nx := fun Γ => Γ[1]? = some (.im (kdN a)), rt := fun _ => False }) ?_ ev xok0 ⟨fun Γ σ2 H2 hn e2 => ?_, fun _ _ _ z => z.elim, fun _ _ _ z => z.elim, fun _ _ _ z => z.elim⟩
  · refine ws_seq (ws_asg (we_v (v_callE (C := ce_kinds A) a (a_cons v_ex a_nil) pre (fun r h => h)) ?_))
    refine ws_asg (we_v (v_if (r := .im (kdN a)) (b := true) (vt_is (t_and (t_test (v_op o_eqI (v_cb n_lenL (a_cons v_ls a_nil)) v_int)) fun _ => t_B (v_cb (n_isE T.ef_BadNumber (.ty _) T.iv_BadNumber) (a_cons v_ex (a_cons v_c a_nil)))) (by rfl))
      (fun _ => v_op (o_ixL (ds := [kdN a]) (i := 0) rfl) v_ls v_int) fun h => by cases h) ?_)
    rfl
  obtain ⟨s2, hs2, _, v, rfl, mv⟩ := e2.ent 1 _ hn
  refine ⟨v, ?_, k v H2 e2.stp mv⟩
  rw [List.getElem?_set_ne (by decide)]
  exact hs2
def bads : List PyData := [.none, .bool true, .str "1", .tuple [.int 1, .int 2]]
theorem shw_by {d : PyData} (h : (d.showable && decide (d.depth ≤ 60) && !d.hasDict && decide (d.shown.length ≤ sizeLine)) = true) : Shw d := by
  simp only [Bool.and_eq_true, decide_eq_true_eq, Bool.not_eq_true'] at h
  exact ⟨h.1.1.1, h.1.1.2, h.1.2, h.2⟩
theorem bad_facts : ∀ d ∈ bads, isInt d = false ∧ Shw d ∧ SeqAt.shaped (kdN ("top", d)) = true := by
  intro d hd
  unfold bads at hd
  simp only [List.mem_cons, List.not_mem_nil, or_false] at hd
  rcases hd with rfl | rfl | rfl | rfl <;> exact ⟨by decide +kernel, shw_by (by decide +kernel), by decide +kernel⟩
/-! ### primes, roots -/
def cmpK (n : Int) : PyData → Bool
  | .int k => decide (k * k ≤ n)
  | _ => false
def cmpV (n : Int) : PyData → Bool
  | .int k => !decide (n % k = 0)
  | _ => true
def isPr (n : Int) : Bool := decide (1 < n) && (((rangeD 2 (n - 2).toNat).filter (cmpK n)).map (cmpV n)).all id
theorem mem_range {lo : Int} {n : Nat} {d : PyData} : d ∈ rangeD lo n ↔ ∃ i : Nat, i < n ∧ d = .int (lo + i) := by
  unfold rangeD
  rw [List.mem_map]
  constructor
  · rintro ⟨i, hi, e⟩; exact ⟨i, List.mem_range.mp hi, e.symm⟩
  · rintro ⟨i, hi, e⟩; exact ⟨i, List.mem_range.mpr hi, e.symm⟩
theorem isPr_iff (n : Nat) : isPr (n : Int) = true ↔ Jac.Pr n := by
  unfold isPr
  rw [Bool.and_eq_true, decide_eq_true_eq, List.all_map, List.all_eq_true]
  constructor
  · rintro ⟨h1, h2⟩
    have hn : 2 ≤ n := by omega
    have nd : ∀ q, 2 ≤ q → q * q ≤ n → q < n → ¬ q ∣ n := fun q a b c hd => by
      have hm : PyData.int (q : Int) ∈ (rangeD 2 ((n : Int) - 2).toNat).filter (cmpK n) := by
        rw [List.mem_filter]
        refine ⟨mem_range.2 ⟨q - 2, by omega, by congr 1; omega⟩, ?_⟩
        show decide ((q : Int) * q ≤ n) = true
        exact decide_eq_true (by exact_mod_cast b)
      have := h2 _ hm
      have z : (!decide ((n : Int) % (q : Int) = 0)) = true := this
      have z2 : (n : Int) % (q : Int) = 0 := Int.emod_eq_zero_of_dvd (Int.natCast_dvd_natCast.mpr hd)
      rw [decide_eq_true z2] at z
      cases z
    refine ⟨hn, fun q a b e => ?_⟩
    have hd := Nat.dvd_of_mod_eq_zero e
    obtain ⟨k, ek⟩ := hd
    have hk : 2 ≤ k := by
      rcases Nat.lt_or_ge k 2 with z | z
      · have : k = 0 ∨ k = 1 := by omega
        rcases this with rfl | rfl <;> simp at ek <;> omega
      · exact z
    rcases Nat.le_total q k with z | z
    · exact nd q a (by rw [ek]; exact Nat.mul_le_mul_left q z) b ⟨k, ek⟩
    · have hkn : k < n := by
        rw [ek]
        have := Nat.mul_le_mul_right k a
        omega
      exact nd k hk (by rw [ek, Nat.mul_comm q k]; exact Nat.mul_le_mul_left k z) hkn ⟨q, by rw [ek, Nat.mul_comm]⟩
  · rintro ⟨h1, h2⟩
    refine ⟨by omega, fun d hd => ?_⟩
    obtain ⟨hr, hk⟩ := List.mem_filter.mp hd
    obtain ⟨i, hi, rfl⟩ := mem_range.1 hr
    show (!decide ((n : Int) % (2 + (i : Int)) = 0)) = true
    have : ¬ (n : Int) % (2 + (i : Int)) = 0 := fun z => by
      have hd : (2 + (i : Int)) ∣ (n : Int) := Int.dvd_of_emod_eq_zero z
      have hd2 : (2 + i) ∣ n := by
        have : ((2 + i : Nat) : Int) ∣ (n : Int) := by rw [Int.natCast_add]; exact hd
        exact_mod_cast this
      exact h2 (2 + i) (by omega) (by omega) (Nat.mod_eq_zero_of_dvd hd2)
    rw [decide_eq_false this]
    rfl
def cn_is_prime : Con Int := { args := fun d => [I d], pre := fun d => d < 1000000, post := fun d r => r = B (isPr d) }
theorem ok_is_prime (T : Txt K mg A) : FnOk P w K mg base CX0 1 A.a_is_prime A.d_is_prime ["number"] (spC K cn_is_prime) := by
  refine fn_ok cn_is_prime T.F_is_prime sc_is_prime (fun _ => rfl) fun cdv A' outer s H hr => ⟨_, (pss_one (ps_ret (pe_and (pe_cmpR op_gt (pv 0) pe_int (nomark _)) (pe_one (pe_callB (cr_all rfl) (by rfl) T.m_all b_all (pa_cons (pe_lc (own := [("k", 1)]) (g := (gName 1)) (by rfl) sc_is_prime.nd (pi_range2 (by rfl) T.m_range (pa_cons pe_int (pa_cons (pv 0) pa_nil))) (blkOk_by (own := [("k", 1)]) (N := ["number", "k"]) (sc := defScope s_is_prime) (by decide +kernel)) (fun _ _ _ _ _ => (pg_name (i := 1) sc_is_prime.nd rfl (Or.inl rfl))) (fun _ _ _ _ _ => (pts_one (pt_cmpR op_le (pe_op op_mul (pv 1) (pv 1)) (pv 0) (nomark _)))) (fun _ _ _ _ _ => (pe_cmpR op_ne (pe_op op_mod (pv 0) (pv 1)) pe_int (nomark _)))) pa_nil)))))), fun p n hn => ?_⟩
  have hn : n < 1000000 := hn
  refine ws_ret (we_v (v_and (v_op o_gt v_im v_int) fun h => v_cb (n_all (bs := ((rangeD 2 (n - 2).toNat).filter (cmpK n)).map (cmpV n)) (.inr rfl)) (a_cons (ve_is (v_lc (i_r2 (a_cons v_int (a_cons v_im a_nil)) ?_) (cmpK n) (fun d => .bool (cmpV n d)) ?_ (Nat.le_of_ble_eq_true rfl) rfl (fun d hd => ?_) fun d hd hk => ?_) ?_) a_nil)) rfl)
  · have h : (1 : Int) < n := of_decide_eq_true h
    exact ⟨by decide, by decide, by omega, by omega⟩
  · unfold rangeD; simp; omega
  · obtain ⟨i, hi, rfl⟩ := mem_range.1 hd
    have hc : CMul (2 + (i : Int)) (2 + (i : Int)) := .inl ⟨by omega, by omega⟩
    exact t_test (v_op o_le (v_op (o_mul hc) v_im v_im) v_im)
  · obtain ⟨i, hi, rfl⟩ := mem_range.1 hd
    have hj : (0 : Int) < 2 + (i : Int) := by omega
    exact v_op o_neI (v_op (o_mod hj) v_im v_im) v_int
  · rw [List.map_map]; rfl
/-- x * x - t leaves 0 -/
def rt (t : Int) (p x : Nat) : Bool := decide (((x : Int) * (x : Int) - t) % (p : Int) = 0)
def roots (t : Int) (p : Nat) : List Nat := (List.range p).filter (rt t p)
def optD : Option Nat → PyData
  | some x => .int (x : Int)
  | none => .none
def rootD (t : Int) (p : Nat) : PyData := optD ((List.range p).find? (rt t p))
theorem root_head (t : Int) (p : Nat) : rootD t p = optD (roots t p).head? := by unfold rootD roots; rw [List.head?_filter]
theorem rt_jac {t : Int} {p x : Nat} : rt t p x = true ↔ ((x : Int) * x) % p = t % p := by
  unfold rt
  rw [decide_eq_true_eq]
  exact (Int.emod_eq_emod_iff_emod_sub_eq_zero).symm
theorem nodup_filter {α : Type} {l : List α} {f : α → Bool} (h : l.Nodup) : (l.filter f).Nodup := h.sublist List.filter_sublist
theorem roots_len {t : Int} {p : Nat} (hp : Jac.Pr p) (ho : p % 2 = 1) (hb : p < 2000) : ((roots t p).length : Int) = 1 + Jac.kr t p := by
  have hp2 := hp.1
  rw [Jac.kr_odd ho]
  have nd : (roots t p).Nodup := nodup_filter List.nodup_range
  have mem : ∀ x, x ∈ roots t p ↔ x < p ∧ ((x : Int) * x) % p = t % p := fun x => by
    unfold roots
    rw [List.mem_filter, List.mem_range, rt_jac]
  have eu : ∀ a b : Nat, p ∣ a * b → p ∣ a ∨ p ∣ b := fun a b => Jac.pr_euclid hp
  by_cases h0 : t % (p : Int) = 0
  · rw [jac_nil hp h0]
    have : roots t p = [0] := by
      apply List.Perm.eq_singleton
      refine (List.perm_ext_iff_of_nodup nd (by simp)).2 fun x => ?_
      rw [mem, h0, List.mem_singleton]
      constructor
      · rintro ⟨h1, h2⟩
        have : (p : Int) ∣ ((x * x : Nat) : Int) := by rw [Int.natCast_mul]; exact Int.dvd_of_emod_eq_zero h2
        have : p ∣ x * x := by exact_mod_cast this
        have hd : p ∣ x := (eu x x this).elim id id
        rcases Nat.eq_zero_or_pos x with z | z
        · exact z
        · have := Nat.le_of_dvd z hd
          omega
      · rintro rfl
        exact ⟨by omega, by simp⟩
    rw [this]; rfl
  · have js := jac_sq hp ho hb h0
    by_cases hm : t % (p : Int) ∈ sqs p
    · rw [if_pos hm] at js
      rw [js]
      obtain ⟨x, h1, h2, h3⟩ := mem_sqs.1 hm
      have key : ∀ y : Nat, y < p → (((y : Int) * y) % p = t % p ↔ y = x ∨ y = p - x) := fun y hy => by
        rw [← h3]
        constructor
        · intro e
          have d : (p : Int) ∣ (y : Int) * y - x * x := Int.dvd_of_emod_eq_zero (Int.emod_eq_emod_iff_emod_sub_eq_zero.mp e)
          rcases Nat.le_total x y with z | z
          · have e2 : (y : Int) * y - x * x = (((y - x) * (y + x) : Nat) : Int) := by
              rw [Int.natCast_mul, Int.natCast_sub z, Int.natCast_add]
              grind
            rw [e2] at d
            have d : p ∣ (y - x) * (y + x) := by exact_mod_cast d
            rcases eu _ _ d with d | d
            · left
              rcases Nat.eq_zero_or_pos (y - x) with w | w
              · omega
              · have := Nat.le_of_dvd w d
                omega
            · right
              obtain ⟨k, ek⟩ := d
              have : k = 1 := by
                rcases Nat.lt_or_ge k 2 with w | w
                · have : k = 0 ∨ k = 1 := by omega
                  rcases this with rfl | rfl
                  · simp at ek; omega
                  · rfl
                · have := Nat.mul_le_mul_left p w
                  omega
              subst this
              omega
          · have e2 : (x : Int) * x - y * y = (((x - y) * (x + y) : Nat) : Int) := by
              rw [Int.natCast_mul, Int.natCast_sub z, Int.natCast_add]
              grind
            have d : (p : Int) ∣ (x : Int) * x - y * y := by
              have := Int.dvd_neg.mpr d
              rwa [show -((y : Int) * y - x * x) = x * x - y * y by omega] at this
            rw [e2] at d
            have d : p ∣ (x - y) * (x + y) := by exact_mod_cast d
            rcases eu _ _ d with d | d
            · left
              rcases Nat.eq_zero_or_pos (x - y) with w | w
              · omega
              · have := Nat.le_of_dvd w d
                omega
            · right
              obtain ⟨k, ek⟩ := d
              have : k = 1 := by
                rcases Nat.lt_or_ge k 2 with w | w
                · have : k = 0 ∨ k = 1 := by omega
                  rcases this with rfl | rfl
                  · simp at ek; omega
                  · rfl
                · have := Nat.mul_le_mul_left p w
                  omega
              subst this
              omega
        · rintro (rfl | rfl)
          · rfl
          · rw [Int.natCast_sub (by omega)]
            apply Int.emod_eq_emod_iff_emod_sub_eq_zero.mpr
            apply Int.emod_eq_zero_of_dvd
            exact ⟨(p : Int) - 2 * x, by grind⟩
      have ne : x ≠ p - x := by omega
      have pm : (roots t p).Perm [x, p - x] := (List.perm_ext_iff_of_nodup nd (by simp [ne])).2 fun y => by
        rw [mem]
        constructor
        · rintro ⟨a, b⟩
          rcases (key y a).1 b with z | z <;> simp [z]
        · intro h
          have h : y = x ∨ y = p - x := by simpa using h
          have hy : y < p := by omega
          exact ⟨hy, (key y hy).2 h⟩
      rw [pm.length_eq]; rfl
    · rw [if_neg hm] at js
      rw [js]
      have : roots t p = [] := by
        rw [List.eq_nil_iff_forall_not_mem]
        intro x hx
        obtain ⟨h1, h2⟩ := (mem x).1 hx
        have hx0 : x ≠ 0 := fun z => by subst z; simp at h2; exact h0 h2.symm
        exact hm (mem_sqs.2 ⟨x, by omega, h1, h2⟩)
      rw [this]; rfl
theorem root_none {t : Int} {p : Nat} (hp : Jac.Pr p) (ho : p % 2 = 1) (hb : p < 2000) : isNon (rootD t p) = decide (Jac.kr t p = -1) := by
  have h := roots_len (t := t) hp ho hb
  rw [root_head]
  cases e : roots t p with
  | nil =>
    rw [e] at h
    have : Jac.kr t p = -1 := by simp at h; omega
    rw [decide_eq_true this]; rfl
  | cons x r =>
    rw [e] at h
    have : ¬ Jac.kr t p = -1 := by simp at h; omega
    rw [decide_eq_false this]; rfl
theorem root_sq {t : Int} {p : Nat} (hp : Jac.Pr p) : isNon (rootD (t * t) p) = false := by
  have hp2 := hp.1
  unfold rootD
  cases e : (List.range p).find? (rt (t * t) p) with
  | some x => rfl
  | none =>
    have h := List.find?_eq_none.mp e
    have hnn : 0 ≤ t % (p : Int) := Int.emod_nonneg _ (by omega)
    obtain ⟨u, hu⟩ := Int.eq_ofNat_of_zero_le hnn
    have hlt : t % (p : Int) < p := Int.emod_lt_of_pos _ (by omega)
    have := h u (List.mem_range.mpr (by omega))
    refine absurd ?_ this
    rw [rt_jac, ← hu, ← Int.mul_emod]
def goodP : PyData → Bool
  | .int i => decide (2 < i) && (decide (i < 2000) && isPr i)
  | _ => false
def cn_root_by (A : Adr) : Con (PyData × PyData) :=
  { args := fun d => [.im d.1, .im d.2], pre := fun _ => True
    post := fun d r => ∃ (t : Int) (p : Nat), d = (.int t, .int p) ∧ goodP d.2 = true ∧ r = .im (rootD t p)
    exc := fun d e => (isInt d.1 = false ∧ e = errN A "top" d.1) ∨ (isInt d.1 = true ∧ goodP d.2 = false ∧ e = errN A "prime" d.2) }
theorem find_take {t : Int} {p i : Nat} (hi : i < p) (h : ∀ j, j < i → rt t p j = false) (hr : rt t p i = true) : rootD t p = .int i := by
  unfold rootD
  have : (List.range p).find? (rt t p) = some i := by
    rw [List.find?_eq_some_iff_append]
    refine ⟨hr, List.range i, List.range' (i + 1) (p - i - 1), ?_, fun a ha => ?_⟩
    · rw [List.range_eq_range', List.range_eq_range']
      have e : p = i + (1 + (p - i - 1)) := by omega
      conv => lhs; rw [e, ← List.range'_append_1]
      congr 1
      rw [Nat.add_comm 1, List.range'_succ]
      simp
    · rw [h a (List.mem_range.mp ha)]; rfl
  rw [this]; rfl
theorem find_none {t : Int} {p : Nat} (h : ∀ j, j < p → rt t p j = false) : rootD t p = .none := by
  unfold rootD
  have : (List.range p).find? (rt t p) = none := List.find?_eq_none.mpr fun x hx => by rw [h x (List.mem_range.mp hx)]; simp
  rw [this]; rfl
theorem ok_root_by (T : Txt K mg A) : FnOk P w K mg base (L2.CX P w) 3 A.a_root_by A.d_root_by ["top", "prime"] (spC K (cn_root_by A)) := by
  have G_is_integer : FnOk P w K mg base CX0 1 A.a_is_integer A.d_is_integer ["value"] (spC K cn_is_integer) := ok_is_integer T
  have G_is_prime : FnOk P w K mg base CX0 1 A.a_is_prime A.d_is_prime ["number"] (spC K cn_is_prime) := ok_is_prime T
  have G_BadNumber : FnOk P w K mg base CX0 1 A.ai_BadNumber A.di_BadNumber ["self", "what", "number"] (spInit A.c_BadNumber ["what", "number"]) := ok_BadNumber T
  refine fn_okX (cn_root_by A) T.F_root_by sc_root_by (fun _ => rfl) fun cdv A' outer s H E hr => ⟨_, (pss_cons (ps_if (pt_not (pt_val (pe_call G_is_integer (hr.mono (by first | decide | omega)) (by rfl) T.g_is_integer T.k_is_integer T.b_is_integer .nil pass0 (pa_cons (pv 0) pa_nil))))
  (pss_one (ps_raise rfl (takes_of rfl rfl rfl rfl) (pmk_oex T.x_BadNumber T.xi_BadNumber T.xt_BadNumber G_BadNumber (hr.mono (by first | decide | omega)) T.xb_BadNumber .nil pass0 (by rfl) T.g_BadNumber (pa_cons pe_str (pa_cons (pv 0) pa_nil)))))
  pss_nil)
  (pss_cons (ps_if (PW.pt (pw_or (pt_not (pt_val (pe_call G_is_integer (hr.mono (by first | decide | omega)) (by rfl) T.g_is_integer T.k_is_integer T.b_is_integer .nil pass0 (pa_cons (pv 1) pa_nil)))) (pw_or (pt_not (pt_chain op_lt op_lt pe_int (pv 1) (pe_glob (v := .int 2000) (by rfl) T.g_MOST_PRIME ⟨_, rfl⟩))) (pw_or1 (pt_not (pt_val (pe_call G_is_prime (hr.mono (by first | decide | omega)) (by rfl) T.g_is_prime T.k_is_prime T.b_is_prime .nil pass0 (pa_cons (pv 1) pa_nil))))))))
  (pss_one (ps_raise rfl (takes_of rfl rfl rfl rfl) (pmk_oex T.x_BadNumber T.xi_BadNumber T.xt_BadNumber G_BadNumber (hr.mono (by first | decide | omega)) T.xb_BadNumber .nil pass0 (by rfl) T.g_BadNumber (pa_cons pe_str (pa_cons (pv 1) pa_nil)))))
  pss_nil)
  (pss_cons (ps_for (passes_of rfl) rfl (pi_range1 (by rfl) T.m_range (pa_cons (pv 1) pa_nil)) (pg_name (i := 2) sc_root_by.nd rfl (Or.inl rfl))
  (pss_one (ps_if (pt_cmpR op_eq (pe_op op_mod (pe_op op_sub (pe_op op_mul (pv 2) (pv 2)) (pv 0)) (pv 1)) pe_int (nomark _))
  (pss_one (ps_ret (pv 2)))
  pss_nil)))
  (pss_one (ps_ret pe_non))))), fun p ⟨d, e⟩ pre => ?_⟩
  refine ws_seq (s_if (t_not (t_B (v_call d (a_cons v_im a_nil) rfl trivial (fun r h => h) (fun _ h => h)))) (fun h => ?_) fun h => ?_)
  · have h : isInt d = false := by simpa using h
    exact ws_raise (ds := [.str "top", d]) (a_cons v_str (a_cons v_im a_nil)) rfl (by show 2 ≤ 1000; decide) (.inl ⟨h, rfl⟩)
  · have h : isInt d = true := by simpa using h
    obtain ⟨t, rfl⟩ := isInt_of h
    refine ws_next ?_
    cases h2 : isInt e with
    | false =>
      have gb : goodP e = false := by
        cases e with
        | int i => exact absurd h2 (by simp [isInt, isK])
        | _ => rfl
      refine ws_seq (ws_if (wt_or (wt_not (wt_v (t_B (v_call e (a_cons v_im a_nil) rfl trivial (fun r h => h) (fun _ h => h))) ⟨fun z => ?_, fun z => ⟨fun _ => ?_, fun z => by cases z⟩⟩))))
      · rw [h2] at z; cases z
      · exact ws_raise (ds := [.str "prime", e]) (a_cons v_str (a_cons v_im a_nil)) rfl (by show 2 ≤ 1000; decide) (.inr ⟨h, gb, rfl⟩)
    | true =>
      obtain ⟨j, rfl⟩ := isInt_of h2
      refine ws_seq (s_if (k := !goodP (.int j)) (vt_is (t_or (b := !(decide (2 < j) && (decide (j < 2000) && isPr j))) (t_not (t_B (v_call (.int j) (a_cons v_im a_nil) rfl trivial (fun r h => h) (fun _ h => h)))) fun _ => vt_is (t_or (b := !isPr j) (t_not (t_test (v_chain o_lt (fun _ => o_lt) v_int v_im v_int))) fun h3 => t_not (t_B (v_call j (a_cons v_im a_nil) rfl ?_ (fun r h => h) (fun _ h => h)))) ?_) ?_) (fun h3 => ?_) fun h3 => ?_)
      · have h3 : 2 < j ∧ j < 2000 := by simpa using h3
        show j < 1000000
        omega
      · cases decide (2 < j) <;> cases decide (j < 2000) <;> cases isPr j <;> rfl
      · rw [h2]; rfl
      · have h3 : goodP (.int j) = false := by simpa using h3
        exact ws_raise (ds := [.str "prime", .int j]) (a_cons v_str (a_cons v_im a_nil)) rfl (by show 2 ≤ 1000; decide) (.inr ⟨h, h3, rfl⟩)
      · have h3 : goodP (.int j) = true := by simpa using h3
        have h4 : (decide (2 < j) && (decide (j < 2000) && isPr j)) = true := h3
        have h4 : 2 < j ∧ j < 2000 ∧ isPr j = true := by simpa using h4
        obtain ⟨b, rfl⟩ := Int.eq_ofNat_of_zero_le (show 0 ≤ j by omega)
        refine ws_next ?_
        have hj : (0 : Int) < (b : Int) := by omega
        refine ws_seq (ws_for (i_r1 (a_cons v_im a_nil) (by omega) (by omega)) (fun i Γ => ∃ e : Ent, Γ = [I t, I b, e] ∧ ∀ j, j < i → rt t b j = false) (up_of ⟨.no, rfl, fun j h => absurd h (by omega)⟩) ?_ ?_)
        · rintro i d Γ hd ⟨e, rfl, hI⟩
          have hib : i < b := by
            have := (List.getElem?_eq_some_iff.mp hd).1
            unfold rangeD at this
            simpa using this
          obtain rfl : d = .int (i : Int) := by
            unfold rangeD at hd
            rw [List.getElem?_map, List.getElem?_range (by simpa using hib)] at hd
            have := Option.some.inj hd
            rw [← this]
            show PyData.int (0 + (i : Int)) = _
            rw [Int.zero_add]
          refine g_name ?_
          have hc : CMul (i : Int) (i : Int) := .inl ⟨by omega, by omega⟩
          refine s_if (t_test (v_op o_eqI (v_op (o_mod hj) (v_op o_sub (v_op (o_mul hc) v_im v_im) v_im) v_im) v_int)) (fun h5 => ?_) fun h5 => ?_
          · exact ws_ret (we_v v_im ⟨t, b, rfl, h3, by rw [find_take hib hI h5]⟩)
          · refine ws_next (up_of ⟨_, rfl, fun k hk => ?_⟩)
            rcases Nat.lt_or_ge k i with z | z
            · exact hI k z
            · have : k = i := by omega
              subst this
              exact h5
        · rintro Γ ⟨e, rfl, hI⟩
          have hl : (rangeD 0 ((b : Int)).toNat).length = b := by unfold rangeD; simp
          rw [hl] at hI
          exact ws_ret (we_v v_non ⟨t, b, rfl, h3, by rw [find_none hI]⟩)
theorem goodP_of {p : Nat} (h1 : 2 < p) (h2 : p < 2000) (h : Jac.Pr p) : goodP (.int (p : Int)) = true := by
  show (decide (2 < (p : Int)) && (decide ((p : Int) < 2000) && isPr p)) = true
  rw [decide_eq_true (by omega), decide_eq_true (by omega), (isPr_iff p).2 h]; rfl
theorem c_root {c : Cd} {tA : TA} {Γ : List Ent} {E : XK} {t : Int} {p : Nat} (hb : goodP (.int (p : Int)) = true) (h : VA c tA Γ [I t, I (p : Int)]) : VE c (tCall (spC c.K (cn_root_by A)) [] E tA) Γ (.im (rootD t p)) := by
  refine v_call (.int t, .int p) h rfl trivial (fun r ⟨t', b', e, _, er⟩ => ?_) fun e he => ?_
  · have e1 := congrArg Prod.fst e
    have e2 := congrArg Prod.snd e
    have e1 : PyData.int t = .int t' := e1
    have e2 : PyData.int p = .int b' := e2
    have e1 := PyData.int.inj e1
    have e2 := PyData.int.inj e2
    subst e1
    have e2 : p = b' := by omega
    subst e2
    exact er
  · rcases he with ⟨h1, _⟩ | ⟨_, h1, _⟩
    · exact absurd h1 (by simp [isInt, isK])
    · have h1 : goodP (.int (p : Int)) = false := h1
      rw [hb] at h1
      cases h1
theorem pr1999 : Jac.Pr 1999 := (isPr_iff 1999).1 (by decide +kernel)
theorem prd_dvd {q : Nat} : ∀ {l : List Nat}, q ∈ l → q ∣ prd l
  | p :: l, h => by
    rcases List.mem_cons.mp h with rfl | h
    · exact ⟨prd l, rfl⟩
    · exact Nat.dvd_trans (prd_dvd h) ⟨p, Nat.mul_comm _ _⟩
def cn_drawn_prime : Con Int := { args := fun m => [.pen, I m], pre := fun m => 2 ≤ m ∧ m ≤ 1990, post := fun _ r => ∃ p : Nat, Jac.Pr p ∧ p % 2 = 1 ∧ 2 < p ∧ p < 2000 ∧ r = I p }
theorem ok__law_drawn_prime (T : Txt K mg A) : FnOk P w K mg base CX0 2 A.a__law_drawn_prime A.d__law_drawn_prime ["pen", "most"] (spC K cn_drawn_prime) := by
  have G__law_draw : FnOk P w K mg base CX0 1 A.a__law_draw A.d__law_draw ["pen", "many"] (spC K cn_draw) := ok__law_draw T
  have G__law_prime_parts : FnOk P w K mg base CX0 1 A.a__law_prime_parts A.d__law_prime_parts ["number"] (spC K cn_prime_parts) := ok__law_prime_parts T
  refine fn_ok cn_drawn_prime T.F__law_drawn_prime sc__law_drawn_prime (fun _ => rfl) fun cdv A' outer s H hr => ⟨_, (pss_cons (ps_set (i := 2) sc__law_drawn_prime.nd rfl (Or.inl rfl) (pe_op op_add pe_int (pe_op op_mul pe_int (pe_call G__law_draw (hr.mono (by first | decide | omega)) (by rfl) T.g__law_draw T.k__law_draw T.b__law_draw .nil pass0 (pa_cons (pv 0) (pa_cons (pe_op op_fdiv (pv 1) pe_int) pa_nil))))))
  (pss_cons (ps_while PassesOwn.never (PW.pt (pw_or (pt_cmpR op_gt (pe_callB call_len_seq (by rfl) T.m_len b_len (pa_cons (pe_call G__law_prime_parts (hr.mono (by first | decide | omega)) (by rfl) T.g__law_prime_parts T.k__law_prime_parts T.b__law_prime_parts .nil pass0 (pa_cons (pv 2) pa_nil)) pa_nil)) pe_int (nomark _)) (pw_or1 (pt_cmpR op_gt (pv 2) pe_int (nomark _)))))
  (pss_one (ps_set (i := 2) sc__law_drawn_prime.nd rfl (Or.inl rfl) (pe_ifExp (pt_cmpR op_lt (pv 2) pe_int (nomark _)) (pe_op op_add (pv 2) pe_int) pe_int))))
  (pss_one (ps_ret (pv 2))))), fun p m ⟨h1, h2⟩ => ?_⟩
  refine ws_seq (ws_asg (we_op (we_v v_int (we_op (we_v v_int (w_call (m / 2) (a_cons v_pen (a_cons (v_op (o_fdiv ⟨by decide, by decide⟩) v_im v_int) a_nil)) rfl ⟨by omega, ?_⟩ ?_ (fun _ h => h)))))))
  · have : (2 : Nat) ^ 20 ≤ 2 ^ 2000 := Nat.pow_le_pow_right (by decide) (by decide)
    have e : (2 : Nat) ^ 20 = 1048576 := by decide
    omega
  rintro r ⟨n, n0, n1, rfl⟩
  have hc : CMul 2 n := .inl ⟨by decide, by decide⟩
  refine ⟨_, o_mul hc, _, o_add, ?_⟩
  obtain ⟨k, hk⟩ := Int.eq_ofNat_of_zero_le (show 0 ≤ 3 + 2 * n by omega)
  show WS _ _ [.pen, I m, I (3 + 2 * n)] _
  rw [hk]
  have k1 : k % 2 = 1 := by omega
  have k3 : 3 ≤ k := by omega
  have k4 : k ≤ 1999 := by omega
  clear hk
  refine ws_seq (ws_while (fun w Γ => ∃ k : Nat, 1999 - k = w ∧ k % 2 = 1 ∧ 3 ≤ k ∧ k ≤ 1999 ∧ Γ = [.pen, I m, I k]) (1999 - k) (up_of ⟨k, rfl, k1, k3, k4, rfl⟩) ?_)
  rintro w Γ ⟨k, rfl, k1, k3, k4, rfl⟩
  refine wt_or (wt_test (we_op (we_cb (wa_cons ?_))))
  refine w_call k (a_cons v_im a_nil) rfl ⟨by omega, by omega⟩ ?_ (fun _ h => h)
  rintro r ⟨ps, rfl, hp, hps⟩
  refine wa_nil ⟨_, n_lenN, we_v v_int ⟨_, o_gt, _, rfl, ?_⟩⟩
  have hlen : (intsD ps).length = ps.length := by unfold intsD; rw [List.length_map]
  rw [hlen]
  have more : ps.length ≠ 1 → k ≠ 1999 := fun hne e => by
    subst e
    have all : ∀ q ∈ ps, q = 1999 := fun q hq => by
      obtain ⟨k, ek⟩ := prd_dvd hq
      rw [hp] at ek
      have q2 := (hps q hq).1.1
      rcases Nat.lt_or_ge q 1999 with z | z
      · exact absurd (Nat.mod_eq_zero_of_dvd ⟨k, ek⟩) (pr1999.2 q q2 z)
      · have := (hps q hq).2; omega
    match ps, hne, all, hp with
    | [], _, _, hp => exact absurd hp (by decide)
    | [a], h, _, _ => exact h rfl
    | a :: b :: r, _, all, hp =>
      have ha := all a (by simp)
      have hb := all b (by simp)
      subst ha
      subst hb
      have hr : 0 < prd r := by
        rcases Nat.eq_zero_or_pos (prd r) with z | z
        · have : prd (1999 :: 1999 :: r) = 0 := by show 1999 * (1999 * prd r) = 0; rw [z]
          omega
        · exact z
      have : prd (1999 :: 1999 :: r) = 1999 * (1999 * prd r) := rfl
      omega
  refine ⟨fun hf => wt_v (t_test (v_op o_gt v_im v_int)) ⟨fun h => ?_, fun _ => ?_⟩, fun ht => ⟨fun _ => ?_, fun z => by cases z⟩⟩
  · have h : (1999 : Int) < k := of_decide_eq_true h
    omega
  · have hf : ¬ (1 : Int) < (ps.length : Int) := of_decide_eq_false hf
    match ps, hp, hps, hf with
    | [], hp, _, _ =>
      have hp : 1 = k := hp
      omega
    | [a], hp, hps, _ =>
      have hp : a * 1 = k := hp
      have pa := (hps a (by simp)).1
      rw [Nat.mul_one] at hp
      subst hp
      exact ws_ret (we_v v_im ⟨a, pa, k1, by omega, by omega, rfl⟩)
    | a :: b :: r, _, _, hf =>
      have : ((a :: b :: r).length : Int) = (r.length : Int) + 2 := by simp; omega
      omega
  · have ht : (1 : Int) < (ps.length : Int) := of_decide_eq_true ht
    have hne := more (by omega)
    refine ws_asg (we_v (v_if (b := true) (r := I ((k : Int) + 2)) (vt_is (t_test (v_op o_lt v_im v_int)) (decide_eq_true (by omega))) (fun _ => v_op o_add v_im v_int) fun h => by cases h) ?_)
    exact ⟨1999 - (k + 2), by omega, up_of ⟨k + 2, rfl, by omega, by omega, by omega, rfl⟩⟩
def wrongs : List PyData := [.int 0, .int 1, .int 2, .int 4, .int 9, .int 15, .int 2003, .int (-3), .none, .bool true, .str "3", .int 1763]
theorem wrong_facts : ∀ d ∈ wrongs, goodP d = false ∧ Shw d ∧ SeqAt.shaped (kdN ("prime", d)) = true := by
  intro d hd
  unfold wrongs at hd
  simp only [List.mem_cons, List.not_mem_nil, or_false] at hd
  rcases hd with rfl | rfl | rfl | rfl | rfl | rfl | rfl | rfl | rfl | rfl | rfl | rfl <;> exact ⟨by decide +kernel, shw_by (by decide +kernel), by decide +kernel⟩
theorem ten40 : 10 ^ 40 ≤ (2 : Nat) ^ 700 := by decide +kernel
theorem lt700 {n : Nat} (h : n < 1048576) : n < 2 ^ 700 := by
  have : (2 : Nat) ^ 20 ≤ 2 ^ 700 := Nat.pow_le_pow_right (by decide) (by decide)
  have e : (2 : Nat) ^ 20 = 1048576 := by decide
  omega
theorem neq_nil (ds : List PyData) : PyData.eqv (.list ds) (.list []) = decide (ds = []) := by
  cases ds <;> simp [PyData.eqv, PyData.eqvAll]
theorem okDue_opt (o : Option Nat) : okDue 1 (optD o) := by
  cases o <;> (unfold optD okDue; trivial)
theorem shaped_roots {l : List Nat} (h : l.length ≤ 2) : SeqAt.shaped (.list (intsD l)) = true := by
  match l, h with
  | [], _ => rfl
  | [_], _ => rfl
  | [_, _], _ => rfl
def kx (t : Int) (q : Nat) : PyData → Bool
  | .int x => decide ((x * x - t) % (q : Int) = 0)
  | _ => false
theorem kx_roots (t : Int) (q : Nat) : ((rangeD 0 ((q : Int)).toNat).filter (kx t q)).map id = intsD (roots t q) := by
  rw [List.map_id]
  unfold rangeD intsD roots
  rw [List.filter_map, show ((q : Int)).toNat = q by omega]
  congr 1
  · funext i; simp
  · congr 1
    funext i
    show decide (((0 + (i : Int)) * (0 + (i : Int)) - t) % (q : Int) = 0) = rt t q i
    unfold rt
    rw [Int.zero_add]
theorem ok_law (T : Txt K mg A) {s : Shared} {H : Hp} {c Pt : Addr} (TB : LamX.TabB base mg c Pt) : ∃ t, PSs (cxOf CX0 P w K mg base ["script", "pen", "lap", "prime", "top", "told", "due", "bad", "wrong", "x"] "law" (defScope s_law) A.a_law (.ref c) callerA [] s H E0).nox (defBody s_law) t ∧
    ∀ ns : List Int, ns.length ≤ 63 → WL K none [(Pt, (PyProof.Rows.envOfC "law" (defScope s_law) s.heap.objs.size A.a_law (.ref c)).qual ++ "<lambda>")] t [.ro (ns.map PyData.int), .no, .no, .no, .no, .no, .no, .no, .no, .no] := by
  have hr0 : Room 8 callerA := ⟨rfl, by decide, by decide⟩
  have hr := hr0.deeper (k := 7) (PyProof.Rows.envOfC "law" (defScope s_law) s.heap.objs.size A.a_law (.ref c))
  have gd : (callerA.deeper (PyProof.Rows.envOfC "law" (defScope s_law) s.heap.objs.size A.a_law (.ref c))).guards = some [] := rfl
  have hu64 := hr.units
  have G__law_pen : FnOk P w K mg base CX0 1 A.a__law_pen A.d__law_pen ["script"] (spC K cn_pen) := ok__law_pen T
  have G__law_draw : FnOk P w K mg base CX0 1 A.a__law_draw A.d__law_draw ["pen", "many"] (spC K cn_draw) := ok__law_draw T
  have G__law_pick : FnOk P w K mg base CX0 2 A.a__law_pick A.d__law_pick ["pen", "some"] (spC K cn_pick) := ok__law_pick T
  have G__law_wide : FnOk P w K mg base CX0 2 A.a__law_wide A.d__law_wide ["pen", "figures"] (spC K cn_wide) := ok__law_wide T
  have G_sign_by : FnOk P w K mg base (L2.CX P w) 3 A.a_sign_by A.d_sign_by ["top", "bottom"] (spC K (cn_sign_by A)) := ok_sign_by T
  have G_root_by : FnOk P w K mg base (L2.CX P w) 3 A.a_root_by A.d_root_by ["top", "prime"] (spC K (cn_root_by A)) := ok_root_by T
  have G__law_drawn_prime : FnOk P w K mg base CX0 2 A.a__law_drawn_prime A.d__law_drawn_prime ["pen", "most"] (spC K cn_drawn_prime) := ok__law_drawn_prime T
  have G__law_is : FnOk P w K mg base CX0 1 A.a__law_is A.d__law_is ["told", "due"] (spC K (cn_is 1)) := ok__law_is T 1
  have G__law_kinds : FnE P w K mg base 2 A.a__law_kinds A.d__law_kinds ["e"] (spE K (ce_kinds A)) := ok__law_kinds T
  obtain ⟨oc, od, kV, doc, pm, an, cdv, ct, osl, hfd, lkF, hcF⟩ := T.F__law_fault.ex
  have bF := T.b__law_fault
  rw [hfd] at lkF bF
  let X : Cx := (cxOf CX0 P w K mg base ["script", "pen", "lap", "prime", "top", "told", "due", "bad", "wrong", "x"] "law" (defScope s_law) A.a_law (.ref c) callerA [] s H E0).nox
  have lamF : ∀ {params : Arguments} {body : Expr} {scope : Scope} {t : XK → TE} {p lpos pos : Pos} (L : LamX.LamS X.env.scope scope) (hdef : defaultsOf params X.env = ([], []))
      (hbind : ∀ (q : Str) (cl : List (Str × Addr)) (pm cv ctv : Value), bindArgs (PySem.W.kla_fn "<lambda>" q params body scope cl pm cv ctv) ⟨[], []⟩ = pure [])
      (hbody : ∀ (A' : Around) (outer : List Env) (s' : Shared) (H' : Hp) (E : XK) (f c' : Addr), Room 4 (A'.deeper (LamX.lamEnv X scope s'.heap.objs.size f c')) → PE (LamX.lamCx X A' outer s' H' E scope f c') body (t E)),
      PE X (.Call (.Name "_law_fault" p) [.Lambda params body scope lpos] [] pos) (LamX.tLam [(Pt, X.env.qual ++ "<lambda>")] (TFault K (ce_kinds A) kdN) t) := fun {params body scope t p lpos pos} L hdef hbind hbody =>
    LamX.pe_lamcall (X := X) (k := 4) (by rfl) T.g__law_fault T.k__law_fault lkF hcF bF sc__law_fault rfl (Or.inl rfl) (fault_gives (X := X) T G__law_kinds gd (hr.mono (by decide))) TB rfl (List.mem_singleton.mpr rfl) (fun p hp _ => by rw [List.mem_singleton.mp hp]) (hr.mono (by decide)) L hdef hbind hbody
  refine ⟨_, (pss_cons (ps_set (i := 1) sc_law.nd rfl (Or.inl rfl) (pe_call G__law_pen (hr.mono (by first | decide | omega)) (by rfl) T.g__law_pen T.k__law_pen T.b__law_pen .nil pass0 (pa_cons (pv 0) pa_nil)))
  (pss_cons (ps_for PassesOwn.never rfl (pi_range1 (by rfl) T.m_range (pa_cons pe_int pa_nil)) (pg_name (i := 2) sc_law.nd rfl (Or.inl rfl))
  (pss_cons (ps_set (i := 3) sc_law.nd rfl (Or.inr rfl) (pe_call G__law_drawn_prime (hr.mono (by first | decide | omega)) (by rfl) T.g__law_drawn_prime T.k__law_drawn_prime T.b__law_drawn_prime .nil pass0 (pa_cons (pv 1) (pa_cons (pe_call G__law_pick (hr.mono (by first | decide | omega)) (by rfl) T.g__law_pick T.k__law_pick T.b__law_pick .nil pass0 (pa_cons (pv 1) (pa_cons (pe_lst (pa_cons pe_int (pa_cons pe_int (pa_cons pe_int pa_nil)))) pa_nil))) pa_nil))))
  (pss_cons (ps_set (i := 4) sc_law.nd rfl (Or.inr rfl) (pe_call G__law_pick (hr.mono (by first | decide | omega)) (by rfl) T.g__law_pick T.k__law_pick T.b__law_pick .nil pass0 (pa_cons (pv 1) (pa_cons (pe_lst (pa_cons (pe_op op_sub (pe_call G__law_draw (hr.mono (by first | decide | omega)) (by rfl) T.g__law_draw T.k__law_draw T.b__law_draw .nil pass0 (pa_cons (pv 1) (pa_cons (pe_op op_mul pe_int (pv 3)) pa_nil))) (pv 3)) (pa_cons (pe_call G__law_wide (hr.mono (by first | decide | omega)) (by rfl) T.g__law_wide T.k__law_wide T.b__law_wide .nil pass0 (pa_cons (pv 1) (pa_cons pe_int pa_nil))) (pa_cons (pe_op op_sub pe_int (pe_call G__law_wide (hr.mono (by first | decide | omega)) (by rfl) T.g__law_wide T.k__law_wide T.b__law_wide .nil pass0 (pa_cons (pv 1) (pa_cons pe_int pa_nil)))) pa_nil)))) pa_nil))))
  (pss_cons (ps_set (i := 5) sc_law.nd rfl (Or.inl rfl) (pe_call G_root_by (hr.mono (by first | decide | omega)) (by rfl) T.g_root_by T.k_root_by T.b_root_by .nil (passes_call LamX.takes0 (fun _ _ _ _ h => h)) (pa_cons (pv 4) (pa_cons (pv 3) pa_nil))))
  (pss_cons (ps_setLc (i := 6) (own := [("x", 9)]) (g := (gName 9)) (by rfl) sc_law.nd rfl rfl (sw_true rfl rfl rfl (by decide +kernel)) (pi_range1 (by rfl) T.m_range (pa_cons (pv 3) pa_nil)) (blkOk_by (own := [("x", 9)]) (N := ["script", "pen", "lap", "prime", "top", "told", "due", "bad", "wrong", "x"]) (sc := defScope s_law) (by decide +kernel)) (fun _ _ _ _ _ => (pg_name (i := 9) sc_law.nd rfl (Or.inl rfl))) (fun _ _ _ _ _ => (pts_one (pt_cmpR op_eq (pe_callTy call_int1 (by rfl) T.m_int b_int (pa_cons (pe_op op_mod (pe_op op_sub (pe_op op_mul (pv 9) (pv 9)) (pv 4)) (pv 3)) pa_nil)) pe_int (nomark _)))) (fun _ _ _ _ _ => (pv 9)))
  (pss_cons (ps_if (PW.pt (pw_or (pt_not (pt_val (pe_call G__law_is (hr.mono (by first | decide | omega)) (by rfl) T.g__law_is T.k__law_is T.b__law_is .nil pass0 (pa_cons (pv 5) (pa_cons (pe_ifExp (pt_cmpR (op_neD hr.units) (pv 6) (pe_lst pa_nil) (nomark _)) (pe_ix ix_list (pv 6) pe_int (fun _ _ => rfl)) pe_non) pa_nil))))) (pw_or (pt_cmpR op_ne (pe_cmpR op_isN (pv 5) pe_non (nomark _)) (pe_cmpR op_eq (pe_call G_sign_by (hr.mono (by first | decide | omega)) (by rfl) T.g_sign_by T.k_sign_by T.b_sign_by .nil (passes_call LamX.takes0 (fun _ _ _ _ h => h)) (pa_cons (pv 4) (pa_cons (pv 3) pa_nil))) (pe_un un_neg pe_int) (nomark _)) (nomark _)) (pw_or1 (pt_cmpR op_ne (pe_call G_sign_by (hr.mono (by first | decide | omega)) (by rfl) T.g_sign_by T.k_sign_by T.b_sign_by .nil (passes_call LamX.takes0 (fun _ _ _ _ h => h)) (pa_cons (pv 4) (pa_cons (pv 3) pa_nil))) (pe_op op_sub (pe_callB call_len_seq (by rfl) T.m_len b_len (pa_cons (pv 6) pa_nil)) pe_int) (nomark _))))))
  (pss_one (ps_ret pe_bl))
  pss_nil)
  (pss_one (ps_if (pt_cmpR op_isN (pe_call G_root_by (hr.mono (by first | decide | omega)) (by rfl) T.g_root_by T.k_root_by T.b_root_by .nil (passes_call LamX.takes0 (fun _ _ _ _ h => h)) (pa_cons (pe_op op_mulW (pv 4) (pv 4)) (pa_cons (pv 3) pa_nil))) pe_non (nomark _))
  (pss_one (ps_ret pe_bl))
  pss_nil))))))))
  (pss_cons (ps_asg (pe_tup (pa_cons (pe_call G__law_pick (hr.mono (by first | decide | omega)) (by rfl) T.g__law_pick T.k__law_pick T.b__law_pick .nil pass0 (pa_cons (pv 1) (pa_cons (pe_lst (pa_cons pe_non (pa_cons pe_bl (pa_cons pe_str (pa_cons (pe_tup (pa_cons pe_int (pa_cons pe_int pa_nil))) pa_nil))))) pa_nil))) (pa_cons (pe_call G__law_pick (hr.mono (by first | decide | omega)) (by rfl) T.g__law_pick T.k__law_pick T.b__law_pick .nil pass0 (pa_cons (pv 1) (pa_cons (pe_lst (pa_cons pe_int (pa_cons pe_int (pa_cons pe_int (pa_cons pe_int (pa_cons pe_int (pa_cons pe_int (pa_cons pe_int (pa_cons (pe_un un_neg pe_int) (pa_cons pe_non (pa_cons pe_bl (pa_cons pe_str (pa_cons pe_int pa_nil))))))))))))) pa_nil))) pa_nil))) (pg_tup (by rfl) (pgs_cons (pg_name (i := 7) sc_law.nd rfl (Or.inr rfl)) (pgs_cons (pg_name (i := 8) sc_law.nd rfl (Or.inr rfl)) pgs_nil))))
  (pss_cons (ps_if (pt_cmpR (op_neD hr.units) (lamF (LamX.lamS_by (sc := defScope s_law) (by decide +kernel)) (by rfl) (by intro _ _ _ _ _; rfl) (fun _ _ _ _ _ _ _ hr => (pe_call G_root_by (hr.mono (by first | decide | omega)) (by rfl) T.g_root_by T.k_root_by T.b_root_by .nil (passes_call (takes_of rfl rfl rfl rfl) (fun _ _ _ _ h => h)) (pa_cons (pv 7) (pa_cons (pv 8) pa_nil))))) (pe_tup (pa_cons pe_str (pa_cons pe_str (pa_cons (pe_callB (call_reprD gd hu64) (by rfl) T.m_repr b_repr (pa_cons (pv 7) pa_nil)) pa_nil)))) (nomark _))
  (pss_one (ps_ret pe_bl))
  pss_nil)
  (pss_cons (ps_if (pt_cmpR (op_neD hr.units) (lamF (LamX.lamS_by (sc := defScope s_law) (by decide +kernel)) (by rfl) (by intro _ _ _ _ _; rfl) (fun _ _ _ _ _ _ _ hr => (pe_call G_root_by (hr.mono (by first | decide | omega)) (by rfl) T.g_root_by T.k_root_by T.b_root_by .nil (passes_call (takes_of rfl rfl rfl rfl) (fun _ _ _ _ h => h)) (pa_cons pe_int (pa_cons (pv 8) pa_nil))))) (pe_tup (pa_cons pe_str (pa_cons pe_str (pa_cons (pe_callB (call_reprD gd hu64) (by rfl) T.m_repr b_repr (pa_cons (pv 8) pa_nil)) pa_nil)))) (nomark _))
  (pss_one (ps_ret pe_bl))
  pss_nil)
  (pss_one (ps_ret (pe_and (pe_call G__law_is (hr.mono (by first | decide | omega)) (by rfl) T.g__law_is T.k__law_is T.b__law_is .nil pass0 (pa_cons (pe_call G_root_by (hr.mono (by first | decide | omega)) (by rfl) T.g_root_by T.k_root_by T.b_root_by .nil (passes_call LamX.takes0 (fun _ _ _ _ h => h)) (pa_cons pe_int (pa_cons pe_int pa_nil))) (pa_cons pe_int pa_nil))) (pe_and (pe_cmpR op_isN (pe_call G_root_by (hr.mono (by first | decide | omega)) (by rfl) T.g_root_by T.k_root_by T.b_root_by .nil (passes_call LamX.takes0 (fun _ _ _ _ h => h)) (pa_cons pe_int (pa_cons pe_int pa_nil))) pe_non (nomark _)) (pe_and (pe_call G__law_is (hr.mono (by first | decide | omega)) (by rfl) T.g__law_is T.k__law_is T.b__law_is .nil pass0 (pa_cons (pe_call G_root_by (hr.mono (by first | decide | omega)) (by rfl) T.g_root_by T.k_root_by T.b_root_by .nil (passes_call LamX.takes0 (fun _ _ _ _ h => h)) (pa_cons pe_int (pa_cons pe_int pa_nil))) (pa_cons pe_int pa_nil))) (pe_one (pe_call G__law_is (hr.mono (by first | decide | omega)) (by rfl) T.g__law_is T.k__law_is T.b__law_is .nil pass0 (pa_cons (pe_call G_root_by (hr.mono (by first | decide | omega)) (by rfl) T.g_root_by T.k_root_by T.b_root_by .nil (passes_call LamX.takes0 (fun _ _ _ _ h => h)) (pa_cons pe_int (pa_cons pe_int pa_nil))) (pa_cons pe_int pa_nil)))))))))))))), fun ns hl => ?_⟩
  refine wl_pen (i := 1) (flat_of rfl) (Nat.le_of_ble_eq_true rfl) (v_call ns (a_cons v_ro a_nil) rfl hl (fun r h => h) (fun _ h => h)) (fun q => ?_) (fun j z => ?_)
  · -- the six laps
    refine wl_seq (ws_for (i_r1 (a_cons v_int a_nil) (by decide) (by decide)) (fun i Γ => ∃ e1 e2 e3 e4 : Ent, (e1.flat && (e2.flat && (e3.flat && e4.flat))) = true ∧ Γ = [.ro (ns.map PyData.int), .pen, e1, e2, e3, e4, .no, .no, .no, .no]) (up_of ⟨.no, .no, .no, .no, rfl, rfl⟩) ?_ ?_)
    · rintro i d Γ hd ⟨e1, e2, e3, e4, fe, rfl⟩
      refine g_name ?_
      show WS _ _ [.ro (ns.map PyData.int), .pen, .im d, e2, e3, e4, .no, .no, .no, .no] _
      refine ws_seq (ws_asg (we_call (wa_cons (we_v v_pen (wa_cons (w_call [.int 20, .int 200, .int 1990] (a_cons v_pen (a_cons (v_lst (ds := [.int 20, .int 200, .int 1990]) (a_cons v_int (a_cons v_int (a_cons v_int a_nil)))) a_nil)) rfl ⟨by decide, by decide⟩ ?_ (fun _ h => h)))))))
      rintro r ⟨d2, hd2, rfl⟩
      obtain ⟨m, rfl, hm1, hm2⟩ : ∃ m : Int, d2 = .int m ∧ 2 ≤ m ∧ m ≤ 1990 := by
        simp only [List.mem_cons, List.not_mem_nil, or_false] at hd2
        rcases hd2 with rfl | rfl | rfl <;> exact ⟨_, rfl, by decide, by decide⟩
      refine wa_nil ⟨m, rfl, ⟨hm1, hm2⟩, ?_, fun e h => h.elim⟩
      rintro r ⟨p, pp, po, p2, pb, rfl⟩
      have gp := goodP_of p2 pb pp
      have p0 : 0 < p := by omega
      show WS _ _ [.ro (ns.map PyData.int), .pen, .im d, I p, e3, e4, .no, .no, .no, .no] _
      have cm2 : CMul 2 (p : Int) := .inl ⟨by decide, by decide⟩
      refine ws_seq (ws_asg (we_call (wa_cons (we_v v_pen (wa_cons (we_lst (wa_cons (we_op (w_call (2 * (p : Int)) (a_cons v_pen (a_cons (v_op (o_mul cm2) v_int v_im) a_nil)) rfl ⟨by omega, ?_⟩ ?_ (fun _ h => h))))))))))
      · exact small_lt (show (2 * (p : Int)).natAbs < 1048576 by omega)
      rintro r ⟨x1, a0, a1, rfl⟩
      refine we_v v_im ⟨_, o_sub, wa_cons (w_call 40 (a_cons v_pen (a_cons v_int a_nil)) rfl (by show 40 ≤ 600; decide) ?_ (fun _ h => h))⟩
      rintro r ⟨x2, b0, b1, rfl⟩
      refine wa_cons (we_op (we_v v_int (w_call 30 (a_cons v_pen (a_cons v_int a_nil)) rfl (by show 30 ≤ 600; decide) ?_ (fun _ h => h))))
      rintro r ⟨x3, c0, c1, rfl⟩
      refine ⟨_, o_sub, wa_nil ⟨[.int (x1 - p), .int x2, .int (0 - x3)], rfl, (by show 3 ≤ 1000000; decide), ?_⟩⟩
      refine wa_nil ⟨[.int (x1 - p), .int x2, .int (0 - x3)], rfl, ⟨(by show 0 < 3; decide), (by show 3 < 1000000; decide)⟩, ?_, fun e h => h.elim⟩
      rintro r ⟨d3, hd3, rfl⟩
      have B2 := bit_lt b0 b1 ten40
      have B3 := bit_lt c0 c1 t30
      obtain ⟨t, rfl, ht⟩ : ∃ t : Int, d3 = .int t ∧ t.natAbs < 2 ^ 700 := by
        simp only [List.mem_cons, List.not_mem_nil, or_false] at hd3
        rcases hd3 with rfl | rfl | rfl
        · exact ⟨_, rfl, lt700 (show (x1 - (p : Int)).natAbs < 1048576 by omega)⟩
        · exact ⟨_, rfl, B2⟩
        · exact ⟨_, rfl, by rw [show (0 - x3).natAbs = x3.natAbs by omega]; exact B3⟩
      clear B2 B3 a0 a1 b0 b1 c0 c1 hd3
      show WS _ _ [.ro (ns.map PyData.int), .pen, .im d, I p, I t, e4, .no, .no, .no, .no] _
      refine ws_seq (ws_asg (we_v (c_root gp (a_cons v_im (a_cons v_im a_nil))) ?_))
      show WS _ _ [.ro (ns.map PyData.int), .pen, .im d, I p, I t, .im (rootD t p), .no, .no, .no, .no] _
      have hj : (0 : Int) < (p : Int) := by omega
      refine ws_seq (ws_asg (we_v (ve_is (v_lc (i_r1 (a_cons v_im a_nil) (by omega) (by omega)) (kx t p) id (by unfold rangeD; simp; omega) (Nat.le_of_ble_eq_true rfl) rfl (fun d hd => ?_) fun d hd hk => ?_) (by rw [kx_roots])) ?_))
      · obtain ⟨i, hi, rfl⟩ := mem_range.1 hd
        have hc : CMul (0 + (i : Int)) (0 + (i : Int)) := .inl ⟨by omega, by omega⟩
        exact t_test (v_op o_eqI (v_cb n_int (a_cons (v_op (o_mod hj) (v_op o_sub (v_op (o_mul hc) v_im v_im) v_im) v_im) a_nil)) v_int)
      · exact v_im
      show WS _ _ [.ro (ns.map PyData.int), .pen, .im d, I p, I t, .im (rootD t p), .ls (intsD (roots t p)), .no, .no, .no] _
      have len := roots_len (t := t) pp po pb
      have none := root_none (t := t) pp po pb
      have l2 : (roots t p).length ≤ 2 := by
        rcases kr_sg (t := t) p0 with z | z | z <;> rw [z] at len <;> omega
      have hlen : (intsD (roots t p)).length = (roots t p).length := by unfold intsD; rw [List.length_map]
      refine ws_seq (s_if (k := false) (vt_is (t_or (b := false) (t_not (t_B (v_call (rootD t p) (a_cons v_im (a_cons (v_if (r := .im (rootD t p)) (t_test (v_op (o_neD (ra := .ro (intsD (roots t p))) (rb := .ls []) rfl rfl (shaped_roots l2) rfl) v_ls (v_lst (ds := []) a_nil))) (fun h => ?_) fun h => ?_) a_nil)) rfl (okDue_opt _) (fun r h => h) (fun _ h => h)))) fun _ =>
        vt_is (t_or (b := false) (t_test (v_op o_neB (v_op o_isN v_im v_non) (v_op o_eqI (c_sign p0 (a_cons v_im (a_cons v_im a_nil))) (v_un o_neg v_int)))) fun _ =>
          vt_is (t_test (v_op o_neI (c_sign p0 (a_cons v_im (a_cons v_im a_nil))) (v_op o_sub (v_cb n_lenL (a_cons v_ls a_nil)) v_int))) ?_) ?_) ?_) (fun h => by cases h) fun _ => ws_next ?_)
      · rw [neq_nil] at h
        have h : ¬ intsD (roots t p) = [] := by simpa using h
        rw [root_head]
        cases e : roots t p with
        | nil => rw [e] at h; exact absurd rfl h
        | cons x r => exact v_op (o_ixL (ds := intsD (x :: r)) (i := 0) (d := .int (x : Int)) (atI_nat (xs := intsD (x :: r)) (i := 0) (by unfold intsD; simp))) v_ls v_int
      · rw [neq_nil] at h
        have h : intsD (roots t p) = [] := by simpa using h
        rw [root_head]
        cases e : roots t p with
        | nil => exact v_non
        | cons x r => rw [e] at h; cases h
      · rw [hlen, len]; simp; omega
      · rw [none]; simp
      · rfl
      have W : CMulW t t := wide_mul ht ht (by decide) (by decide) (by decide)
      refine s_if (k := false) (vt_is (t_test (v_op o_isN (c_root gp (a_cons (v_op (o_mulW W) v_im v_im) (a_cons v_im a_nil))) v_non)) (root_sq pp)) (fun h => by cases h) fun _ => ws_next ?_
      exact ⟨[.ro (ns.map PyData.int), .pen, .im d, I p, I t, .im (rootD t p), .no, .no, .no, .no], .cons (.inl rfl) (.cons (.inl rfl) (.cons (.inl rfl) (.cons (.inl rfl) (.cons (.inl rfl) (.cons (.inl rfl) (.cons (.inr (.inl rfl)) (.cons (.inl rfl) (.cons (.inl rfl) (.cons (.inl rfl) .nil))))))))), _, _, _, _, rfl, rfl⟩
    rintro Γ ⟨e1, e2, e3, e4, fe, rfl⟩
    have flE : ∀ a b : Ent, a.flat = true → b.flat = true → Flat [.ro (ns.map PyData.int), .pen, e1, e2, e3, e4, .no, a, b, .no] := fun a b ha hb => flat_of (by
      simp only [Bool.and_eq_true] at fe
      obtain ⟨f1, f2, f3, f4⟩ := fe
      show (true && (true && (e1.flat && (e2.flat && (e3.flat && (e4.flat && (true && (a.flat && (b.flat && (true && true)))))))))) = true
      rw [f1, f2, f3, f4, ha, hb]; rfl)
    refine ⟨flE .no .no rfl rfl, ?_⟩
    refine wl_seq (ws_asgT (we_tup (wa_cons (w_call bads (a_cons v_pen (a_cons (v_lst (ds := bads) (a_cons v_non (a_cons v_bl (a_cons v_str (a_cons (v_tup (ds := [.int 1, .int 2]) (a_cons v_int (a_cons v_int a_nil))) a_nil))))) a_nil)) rfl ⟨by decide, by decide⟩ ?_ (fun _ h => h)))))
    rintro r ⟨d, hd, rfl⟩
    refine wa_cons (w_call wrongs (a_cons v_pen (a_cons (v_lst (ds := wrongs) (a_cons v_int (a_cons v_int (a_cons v_int (a_cons v_int (a_cons v_int (a_cons v_int (a_cons v_int (a_cons (v_un o_neg v_int) (a_cons v_non (a_cons v_bl (a_cons v_str (a_cons v_int a_nil))))))))))))) a_nil)) rfl ⟨by decide, by decide⟩ ?_ (fun _ h => h))
    rintro r ⟨z, hz, rfl⟩
    refine wa_nil ⟨[d, z], rfl, (by show 2 ≤ 1000000; decide), _, rfl, rfl, wg_name (wg_name (wg_nil ?_))⟩
    have fl := flE (.im d) (.im z) rfl rfl
    refine ⟨fl, ?_⟩
    show WL _ _ _ _ [.ro (ns.map PyData.int), .pen, e1, e2, e3, e4, .no, .im d, .im z, .no]
    obtain ⟨d1, d2, d3⟩ := bad_facts d hd
    obtain ⟨z1, z2, z3⟩ := wrong_facts z hz
    refine wl_fault (C := ce_kinds A) (kd := kdN) ("top", d) fl (fun E => we_call (wa_v (a_cons v_im (a_cons v_im a_nil)) ⟨(d, z), rfl, trivial, ?_, ?_⟩)) d2 (v_tup (ds := [.str "number", .str "top", .str d.shown]) (a_cons v_str (a_cons v_str (a_cons (v_cb (n_repr d2) (a_cons v_im a_nil)) a_nil))) (by show 3 ≤ 1000000; decide)) d3 ?_
    · rintro r ⟨t, b, h, _⟩
      cases h
      exact absurd d1 (by simp [isInt, isK])
    · rintro er (⟨_, h⟩ | ⟨h, _⟩)
      · exact ⟨rfl, h⟩
      · rw [d1] at h; cases h
    refine wl_fault (C := ce_kinds A) (kd := kdN) ("prime", z) fl (fun E => we_call (wa_v (a_cons v_int (a_cons v_im a_nil)) ⟨(.int 1, z), rfl, trivial, ?_, ?_⟩)) z2 (v_tup (ds := [.str "number", .str "prime", .str z.shown]) (a_cons v_str (a_cons v_str (a_cons (v_cb (n_repr z2) (a_cons v_im a_nil)) a_nil))) (by show 3 ≤ 1000000; decide)) z3 ?_
    · rintro r ⟨t, b, h, hb, _⟩
      rw [z1] at hb; cases hb
    · rintro er (⟨h, _⟩ | ⟨_, _, h⟩)
      · exact absurd h (by simp [isInt, isK])
      · exact ⟨rfl, h⟩
    have one : ∀ (t : Int) (b : Nat) (v : PyData), goodP (.int (b : Int)) = true → rootD t b = v → ∀ {ta tb : TE}, VE (c0 K (some q)) ta [.ro (ns.map PyData.int), .pen, e1, e2, e3, e4, .no, .im d, .im z, .no] (I t) → VE (c0 K (some q)) tb [.ro (ns.map PyData.int), .pen, e1, e2, e3, e4, .no, .im d, .im z, .no] (I (b : Int)) → VE (c0 K (some q)) (tCall (spC K (cn_root_by A)) [] E0 (tCons ta (tCons tb tNil))) [.ro (ns.map PyData.int), .pen, e1, e2, e3, e4, .no, .im d, .im z, .no] (.im v) := fun t b v hb e ta tb h1 h2 => ve_is (c_root (c := c0 K (some q)) hb (a_cons h1 (a_cons h2 a_nil))) (by rw [e])
    refine wl_ws (ws_ret (we_v (v_and (v_call (.int 3) (a_cons (one 2 7 (.int 3) (by decide +kernel) (congrArg optD (show (List.range 7).find? (rt 2 7) = some 3 by decide +kernel)) v_int (ve_is v_int rfl)) (a_cons v_int a_nil)) rfl (okDue_int 0 3) (fun r h => h) (fun _ h => h)) fun _ =>
      v_and (v_op o_isN (one 3 7 .none (by decide +kernel) (congrArg optD (show (List.range 7).find? (rt 3 7) = none by decide +kernel)) v_int (ve_is v_int rfl)) v_non) fun _ =>
      v_and (v_call (.int 0) (a_cons (one 0 1999 (.int 0) (by decide +kernel) (congrArg optD (show (List.range 1999).find? (rt 0 1999) = some 0 by decide +kernel)) v_int (ve_is v_int rfl)) (a_cons v_int a_nil)) rfl (okDue_int 0 0) (fun r h => h) (fun _ h => h)) fun _ =>
      v_call (.int 1) (a_cons (one 1 1999 (.int 1) (by decide +kernel) (congrArg optD (show (List.range 1999).find? (rt 1 1999) = some 1 by decide +kernel)) v_int (ve_is v_int rfl)) (a_cons v_int a_nil)) rfl (okDue_int 0 1) (fun r h => h) (fun _ h => h)) rfl))
  · match j, z with
    | 0, z => cases z
    | 1, z => cases z
    | 2, z => cases z
    | 3, z => cases z
    | 4, z => cases z
    | 5, z => cases z
    | 6, z => cases z
    | 7, z => cases z
    | 8, z => cases z
    | 9, z => cases z
end
end K54

namespace K54
open PySem PySem.Spec PyProof.Rows L2 DL
theorem law_end {P : Program} {w : World} {K : PySem.W.Frag} {h : Heap} {mg : Str → Option Value} {fa c Pt : Addr}
    (M : ∃ A : Adr, A.a_law = fa ∧ Txt K mg A ∧ (∃ (oc : Value) (od : Option Addr) (kV doc pm : Value) (an : Option Addr) (ct : Value) (osl : Array (Option Value)), K.lookup fa = some ⟨oc, od, .func (PySem.W.fnOf "law" "law" (defArgs s_law) (defBody s_law) (defScope s_law) .none kV doc pm an (.ref c) ct), osl⟩) ∧ PySem.W.codeIn K (.ref c) "law" = true)
    (tb : h.get? Pt = some { cls := .none, data := .fields #[] }) (nt : K.lookup Pt = none) (hd : PySem.W.CodeHd h c Pt) :
    ∃ cs : List (Addr × Addr), (∀ q ∈ cs, h.get? q.2 = some { cls := .none, data := .fields #[] }) ∧ (∀ q ∈ cs, K.lookup q.2 = none) ∧ (∀ q ∈ cs, PySem.W.CodeHd h q.1 q.2) ∧
      ∀ (s : Shared) (a : Addr) (ns : List Int), ns.length ≤ 63 → (∀ z ∈ ns, Builtin.Int.intBits z ≤ 1048576) → LawRun P w K mg cs fa a ns s := by
  obtain ⟨A, rfl, T, ⟨oc, od, kV, doc, pm, an, ct, osl, lk⟩, hcd⟩ := M
  refine ⟨[(c, Pt)], fun q hq => by rw [List.mem_singleton.mp hq]; exact tb, fun q hq => by rw [List.mem_singleton.mp hq]; exact nt, fun q hq => by rw [List.mem_singleton.mp hq]; exact hd, fun s a ns hl _ => ⟨fun base H kb gb TB hT hS e0 => ?_⟩⟩
  refine LamX.run_ofS (k := 7) (N := ["script", "pen", "lap", "prime", "top", "told", "due", "bad", "wrong", "x"]) (ps := ["script"]) (us := [.ref a]) (vs := [.ref a]) lk hcd sc_law ⟨rfl, by decide, by decide⟩ e0 (.of_eq rfl) (.cons rfl .nil) rfl fun _ => ?_
  obtain ⟨t, ht, hw⟩ := ok_law (P := P) (w := w) (base := base) T (s := s) (H := H) (TB _ (List.mem_singleton.mpr rfl))
  refine ⟨t, ht.nox, hw ns hl _ H ?_ (fun q hq => ?_) _ (fun _ => rfl)⟩
  · have ra : ResAll K none H H [.ro (ns.map PyData.int)] [.ref a] := ⟨_, [], rfl, res_ro.2 ⟨a, ns.map V.int, rfl, hS, Ims.of_ints ns⟩, rfl, fun z => by cases z⟩
    exact ev_start (N := ["script", "pen", "lap", "prime", "top", "told", "due", "bad", "wrong", "x"]) (rs := [.ro (ns.map PyData.int)]) (m := 9) (fun _ e => by cases e) ra (Nat.le_of_ble_eq_true rfl)
  · rw [List.mem_singleton.mp hq]
    exact LamX.TabS.nil (hT _ (List.mem_singleton.mpr rfl))
theorem all_mk {K : PySem.W.Frag} {h : Heap} {mg : Str → Option Value} {fa : Addr} (X : K.In h) (G : h.Ns mainGlobals mg) (hfa : mg "law" = some (.ref fa))
    {a__law_pen : Addr} {od__law_pen an__law_pen : Option Addr} {sl__law_pen : Array (Option Value)} {oc__law_pen kV__law_pen dc__law_pen pm__law_pen cd__law_pen ct__law_pen : Value}
    {a__law_draw : Addr} {od__law_draw an__law_draw : Option Addr} {sl__law_draw : Array (Option Value)} {oc__law_draw kV__law_draw dc__law_draw pm__law_draw cd__law_draw ct__law_draw : Value}
    {a__law_prime_parts : Addr} {od__law_prime_parts an__law_prime_parts : Option Addr} {sl__law_prime_parts : Array (Option Value)} {oc__law_prime_parts kV__law_prime_parts dc__law_prime_parts pm__law_prime_parts cd__law_prime_parts ct__law_prime_parts : Value}
    {a__law_drawn_prime : Addr} {od__law_drawn_prime an__law_drawn_prime : Option Addr} {sl__law_drawn_prime : Array (Option Value)} {oc__law_drawn_prime kV__law_drawn_prime dc__law_drawn_prime pm__law_drawn_prime cd__law_drawn_prime ct__law_drawn_prime : Value}
    {a__law_pick : Addr} {od__law_pick an__law_pick : Option Addr} {sl__law_pick : Array (Option Value)} {oc__law_pick kV__law_pick dc__law_pick pm__law_pick cd__law_pick ct__law_pick : Value}
    {a_is_integer : Addr} {od_is_integer an_is_integer : Option Addr} {sl_is_integer : Array (Option Value)} {oc_is_integer kV_is_integer dc_is_integer pm_is_integer cd_is_integer ct_is_integer : Value}
    {a_is_prime : Addr} {od_is_prime an_is_prime : Option Addr} {sl_is_prime : Array (Option Value)} {oc_is_prime kV_is_prime dc_is_prime pm_is_prime cd_is_prime ct_is_prime : Value}
    {a_root_by : Addr} {od_root_by an_root_by : Option Addr} {sl_root_by : Array (Option Value)} {oc_root_by kV_root_by dc_root_by pm_root_by cd_root_by ct_root_by : Value}
    {a__law_more_kinds : Addr} {od__law_more_kinds an__law_more_kinds : Option Addr} {sl__law_more_kinds : Array (Option Value)} {oc__law_more_kinds kV__law_more_kinds dc__law_more_kinds pm__law_more_kinds cd__law_more_kinds ct__law_more_kinds : Value}
    {a__law_kinds : Addr} {od__law_kinds an__law_kinds : Option Addr} {sl__law_kinds : Array (Option Value)} {oc__law_kinds kV__law_kinds dc__law_kinds pm__law_kinds cd__law_kinds ct__law_kinds : Value}
    {a__law_fault : Addr} {od__law_fault an__law_fault : Option Addr} {sl__law_fault : Array (Option Value)} {oc__law_fault kV__law_fault dc__law_fault pm__law_fault cd__law_fault ct__law_fault : Value}
    {a__law_is : Addr} {od__law_is an__law_is : Option Addr} {sl__law_is : Array (Option Value)} {oc__law_is kV__law_is dc__law_is pm__law_is cd__law_is ct__law_is : Value}
    {a__law_wide : Addr} {od__law_wide an__law_wide : Option Addr} {sl__law_wide : Array (Option Value)} {oc__law_wide kV__law_wide dc__law_wide pm__law_wide cd__law_wide ct__law_wide : Value}
    {a_sign_by_two : Addr} {od_sign_by_two an_sign_by_two : Option Addr} {sl_sign_by_two : Array (Option Value)} {oc_sign_by_two kV_sign_by_two dc_sign_by_two pm_sign_by_two cd_sign_by_two ct_sign_by_two : Value}
    {a_sign_in : Addr} {od_sign_in an_sign_in : Option Addr} {sl_sign_in : Array (Option Value)} {oc_sign_in kV_sign_in dc_sign_in pm_sign_in cd_sign_in ct_sign_in : Value}
    {a_sign_by : Addr} {od_sign_by an_sign_by : Option Addr} {sl_sign_by : Array (Option Value)} {oc_sign_by kV_sign_by dc_sign_by pm_sign_by cd_sign_by ct_sign_by : Value}
    {a_law : Addr} {od_law an_law : Option Addr} {sl_law : Array (Option Value)} {oc_law kV_law dc_law pm_law ct_law : Value} {cd_a : Addr}
    {a_BendError : Addr}
    {a_BadNumber : Addr}
    {a_BadRow : Addr}
    {a_BadTable : Addr}
    {a_BadQuadruple : Addr}
    {a_BadWord : Addr}
    {a_BadName : Addr}
    {a_BadText : Addr}
    {a_NoPlace : Addr}
    {a_NoName : Addr}
    {a_TakenName : Addr}
    {a_Unlike : Addr}
    {a_NotThere : Addr}
    {a_TooMany : Addr}
    {a_NotKept : Addr}
    {a_NothingToUndo : Addr}
    {a_NothingToRedo : Addr}
    {nm_BadNumber q_BadNumber : Str} {N_BadNumber : Addr} {bs_BadNumber bm_BadNumber : List Value} {sn_BadNumber : List Str} {su_BadNumber : List Value} {ab_BadNumber : Bool} {co_BadNumber : Option Bool} {dd_BadNumber : Option Addr} {m0_BadNumber m1_BadNumber m2_BadNumber m3_BadNumber m5_BadNumber : Option Value}
    {ai_BadNumber : Addr} {oI_BadNumber kI_BadNumber dI_BadNumber pI_BadNumber cI_BadNumber tI_BadNumber : Value} {eI_BadNumber nI_BadNumber : Option Addr} {sI_BadNumber : Array (Option Value)}
    {t_MOST_PRIME : Tok}
    (n__law_pen : PySem.W.nsIn K mainGlobals "_law_pen" = some (some (.ref a__law_pen)))
    (l__law_pen : K.lookup a__law_pen = some ⟨oc__law_pen, od__law_pen, .func (PySem.W.fnOf "_law_pen" "_law_pen" (defArgs s__law_pen) (defBody s__law_pen) (defScope s__law_pen) .none kV__law_pen dc__law_pen pm__law_pen an__law_pen cd__law_pen ct__law_pen), sl__law_pen⟩)
    (c__law_pen : PySem.W.codeIn K cd__law_pen "_law_pen" = true)
    (k__law_pen : PySem.W.keepIn K (.ref a__law_pen) = true)
    (n__law_draw : PySem.W.nsIn K mainGlobals "_law_draw" = some (some (.ref a__law_draw)))
    (l__law_draw : K.lookup a__law_draw = some ⟨oc__law_draw, od__law_draw, .func (PySem.W.fnOf "_law_draw" "_law_draw" (defArgs s__law_draw) (defBody s__law_draw) (defScope s__law_draw) .none kV__law_draw dc__law_draw pm__law_draw an__law_draw cd__law_draw ct__law_draw), sl__law_draw⟩)
    (c__law_draw : PySem.W.codeIn K cd__law_draw "_law_draw" = true)
    (k__law_draw : PySem.W.keepIn K (.ref a__law_draw) = true)
    (n__law_prime_parts : PySem.W.nsIn K mainGlobals "_law_prime_parts" = some (some (.ref a__law_prime_parts)))
    (l__law_prime_parts : K.lookup a__law_prime_parts = some ⟨oc__law_prime_parts, od__law_prime_parts, .func (PySem.W.fnOf "_law_prime_parts" "_law_prime_parts" (defArgs s__law_prime_parts) (defBody s__law_prime_parts) (defScope s__law_prime_parts) .none kV__law_prime_parts dc__law_prime_parts pm__law_prime_parts an__law_prime_parts cd__law_prime_parts ct__law_prime_parts), sl__law_prime_parts⟩)
    (c__law_prime_parts : PySem.W.codeIn K cd__law_prime_parts "_law_prime_parts" = true)
    (k__law_prime_parts : PySem.W.keepIn K (.ref a__law_prime_parts) = true)
    (n__law_drawn_prime : PySem.W.nsIn K mainGlobals "_law_drawn_prime" = some (some (.ref a__law_drawn_prime)))
    (l__law_drawn_prime : K.lookup a__law_drawn_prime = some ⟨oc__law_drawn_prime, od__law_drawn_prime, .func (PySem.W.fnOf "_law_drawn_prime" "_law_drawn_prime" (defArgs s__law_drawn_prime) (defBody s__law_drawn_prime) (defScope s__law_drawn_prime) .none kV__law_drawn_prime dc__law_drawn_prime pm__law_drawn_prime an__law_drawn_prime cd__law_drawn_prime ct__law_drawn_prime), sl__law_drawn_prime⟩)
    (c__law_drawn_prime : PySem.W.codeIn K cd__law_drawn_prime "_law_drawn_prime" = true)
    (k__law_drawn_prime : PySem.W.keepIn K (.ref a__law_drawn_prime) = true)
    (n__law_pick : PySem.W.nsIn K mainGlobals "_law_pick" = some (some (.ref a__law_pick)))
    (l__law_pick : K.lookup a__law_pick = some ⟨oc__law_pick, od__law_pick, .func (PySem.W.fnOf "_law_pick" "_law_pick" (defArgs s__law_pick) (defBody s__law_pick) (defScope s__law_pick) .none kV__law_pick dc__law_pick pm__law_pick an__law_pick cd__law_pick ct__law_pick), sl__law_pick⟩)
    (c__law_pick : PySem.W.codeIn K cd__law_pick "_law_pick" = true)
    (k__law_pick : PySem.W.keepIn K (.ref a__law_pick) = true)
    (n_is_integer : PySem.W.nsIn K mainGlobals "is_integer" = some (some (.ref a_is_integer)))
    (l_is_integer : K.lookup a_is_integer = some ⟨oc_is_integer, od_is_integer, .func (PySem.W.fnOf "is_integer" "is_integer" (defArgs s_is_integer) (defBody s_is_integer) (defScope s_is_integer) .none kV_is_integer dc_is_integer pm_is_integer an_is_integer cd_is_integer ct_is_integer), sl_is_integer⟩)
    (c_is_integer : PySem.W.codeIn K cd_is_integer "is_integer" = true)
    (k_is_integer : PySem.W.keepIn K (.ref a_is_integer) = true)
    (n_is_prime : PySem.W.nsIn K mainGlobals "is_prime" = some (some (.ref a_is_prime)))
    (l_is_prime : K.lookup a_is_prime = some ⟨oc_is_prime, od_is_prime, .func (PySem.W.fnOf "is_prime" "is_prime" (defArgs s_is_prime) (defBody s_is_prime) (defScope s_is_prime) .none kV_is_prime dc_is_prime pm_is_prime an_is_prime cd_is_prime ct_is_prime), sl_is_prime⟩)
    (c_is_prime : PySem.W.codeIn K cd_is_prime "is_prime" = true)
    (k_is_prime : PySem.W.keepIn K (.ref a_is_prime) = true)
    (n_root_by : PySem.W.nsIn K mainGlobals "root_by" = some (some (.ref a_root_by)))
    (l_root_by : K.lookup a_root_by = some ⟨oc_root_by, od_root_by, .func (PySem.W.fnOf "root_by" "root_by" (defArgs s_root_by) (defBody s_root_by) (defScope s_root_by) .none kV_root_by dc_root_by pm_root_by an_root_by cd_root_by ct_root_by), sl_root_by⟩)
    (c_root_by : PySem.W.codeIn K cd_root_by "root_by" = true)
    (k_root_by : PySem.W.keepIn K (.ref a_root_by) = true)
    (n__law_more_kinds : PySem.W.nsIn K mainGlobals "_law_more_kinds" = some (some (.ref a__law_more_kinds)))
    (l__law_more_kinds : K.lookup a__law_more_kinds = some ⟨oc__law_more_kinds, od__law_more_kinds, .func (PySem.W.fnOf "_law_more_kinds" "_law_more_kinds" (defArgs s__law_more_kinds) (defBody s__law_more_kinds) (defScope s__law_more_kinds) .none kV__law_more_kinds dc__law_more_kinds pm__law_more_kinds an__law_more_kinds cd__law_more_kinds ct__law_more_kinds), sl__law_more_kinds⟩)
    (c__law_more_kinds : PySem.W.codeIn K cd__law_more_kinds "_law_more_kinds" = true)
    (k__law_more_kinds : PySem.W.keepIn K (.ref a__law_more_kinds) = true)
    (n__law_kinds : PySem.W.nsIn K mainGlobals "_law_kinds" = some (some (.ref a__law_kinds)))
    (l__law_kinds : K.lookup a__law_kinds = some ⟨oc__law_kinds, od__law_kinds, .func (PySem.W.fnOf "_law_kinds" "_law_kinds" (defArgs s__law_kinds) (defBody s__law_kinds) (defScope s__law_kinds) .none kV__law_kinds dc__law_kinds pm__law_kinds an__law_kinds cd__law_kinds ct__law_kinds), sl__law_kinds⟩)
    (c__law_kinds : PySem.W.codeIn K cd__law_kinds "_law_kinds" = true)
    (k__law_kinds : PySem.W.keepIn K (.ref a__law_kinds) = true)
    (n__law_fault : PySem.W.nsIn K mainGlobals "_law_fault" = some (some (.ref a__law_fault)))
    (l__law_fault : K.lookup a__law_fault = some ⟨oc__law_fault, od__law_fault, .func (PySem.W.fnOf "_law_fault" "_law_fault" (defArgs s__law_fault) (defBody s__law_fault) (defScope s__law_fault) .none kV__law_fault dc__law_fault pm__law_fault an__law_fault cd__law_fault ct__law_fault), sl__law_fault⟩)
    (c__law_fault : PySem.W.codeIn K cd__law_fault "_law_fault" = true)
    (k__law_fault : PySem.W.keepIn K (.ref a__law_fault) = true)
    (n__law_is : PySem.W.nsIn K mainGlobals "_law_is" = some (some (.ref a__law_is)))
    (l__law_is : K.lookup a__law_is = some ⟨oc__law_is, od__law_is, .func (PySem.W.fnOf "_law_is" "_law_is" (defArgs s__law_is) (defBody s__law_is) (defScope s__law_is) .none kV__law_is dc__law_is pm__law_is an__law_is cd__law_is ct__law_is), sl__law_is⟩)
    (c__law_is : PySem.W.codeIn K cd__law_is "_law_is" = true)
    (k__law_is : PySem.W.keepIn K (.ref a__law_is) = true)
    (n__law_wide : PySem.W.nsIn K mainGlobals "_law_wide" = some (some (.ref a__law_wide)))
    (l__law_wide : K.lookup a__law_wide = some ⟨oc__law_wide, od__law_wide, .func (PySem.W.fnOf "_law_wide" "_law_wide" (defArgs s__law_wide) (defBody s__law_wide) (defScope s__law_wide) .none kV__law_wide dc__law_wide pm__law_wide an__law_wide cd__law_wide ct__law_wide), sl__law_wide⟩)
    (c__law_wide : PySem.W.codeIn K cd__law_wide "_law_wide" = true)
    (k__law_wide : PySem.W.keepIn K (.ref a__law_wide) = true)
    (n_sign_by_two : PySem.W.nsIn K mainGlobals "sign_by_two" = some (some (.ref a_sign_by_two)))
    (l_sign_by_two : K.lookup a_sign_by_two = some ⟨oc_sign_by_two, od_sign_by_two, .func (PySem.W.fnOf "sign_by_two" "sign_by_two" (defArgs s_sign_by_two) (defBody s_sign_by_two) (defScope s_sign_by_two) .none kV_sign_by_two dc_sign_by_two pm_sign_by_two an_sign_by_two cd_sign_by_two ct_sign_by_two), sl_sign_by_two⟩)
    (c_sign_by_two : PySem.W.codeIn K cd_sign_by_two "sign_by_two" = true)
    (k_sign_by_two : PySem.W.keepIn K (.ref a_sign_by_two) = true)
    (n_sign_in : PySem.W.nsIn K mainGlobals "sign_in" = some (some (.ref a_sign_in)))
    (l_sign_in : K.lookup a_sign_in = some ⟨oc_sign_in, od_sign_in, .func (PySem.W.fnOf "sign_in" "sign_in" (defArgs s_sign_in) (defBody s_sign_in) (defScope s_sign_in) .none kV_sign_in dc_sign_in pm_sign_in an_sign_in cd_sign_in ct_sign_in), sl_sign_in⟩)
    (c_sign_in : PySem.W.codeIn K cd_sign_in "sign_in" = true)
    (k_sign_in : PySem.W.keepIn K (.ref a_sign_in) = true)
    (n_sign_by : PySem.W.nsIn K mainGlobals "sign_by" = some (some (.ref a_sign_by)))
    (l_sign_by : K.lookup a_sign_by = some ⟨oc_sign_by, od_sign_by, .func (PySem.W.fnOf "sign_by" "sign_by" (defArgs s_sign_by) (defBody s_sign_by) (defScope s_sign_by) .none kV_sign_by dc_sign_by pm_sign_by an_sign_by cd_sign_by ct_sign_by), sl_sign_by⟩)
    (c_sign_by : PySem.W.codeIn K cd_sign_by "sign_by" = true)
    (k_sign_by : PySem.W.keepIn K (.ref a_sign_by) = true)
    (n_law : PySem.W.nsIn K mainGlobals "law" = some (some (.ref a_law)))
    (l_law : K.lookup a_law = some ⟨oc_law, od_law, .func (PySem.W.fnOf "law" "law" (defArgs s_law) (defBody s_law) (defScope s_law) .none kV_law dc_law pm_law an_law (.ref cd_a) ct_law), sl_law⟩)
    (c_law : PySem.W.codeIn K (.ref cd_a) "law" = true)
    (k_law : PySem.W.keepIn K (.ref a_law) = true)
    (n_BendError : PySem.W.nsIn K mainGlobals "BendError" = some (some (.ref a_BendError)))
    (n_BadNumber : PySem.W.nsIn K mainGlobals "BadNumber" = some (some (.ref a_BadNumber)))
    (n_BadRow : PySem.W.nsIn K mainGlobals "BadRow" = some (some (.ref a_BadRow)))
    (n_BadTable : PySem.W.nsIn K mainGlobals "BadTable" = some (some (.ref a_BadTable)))
    (n_BadQuadruple : PySem.W.nsIn K mainGlobals "BadQuadruple" = some (some (.ref a_BadQuadruple)))
    (n_BadWord : PySem.W.nsIn K mainGlobals "BadWord" = some (some (.ref a_BadWord)))
    (n_BadName : PySem.W.nsIn K mainGlobals "BadName" = some (some (.ref a_BadName)))
    (n_BadText : PySem.W.nsIn K mainGlobals "BadText" = some (some (.ref a_BadText)))
    (n_NoPlace : PySem.W.nsIn K mainGlobals "NoPlace" = some (some (.ref a_NoPlace)))
    (n_NoName : PySem.W.nsIn K mainGlobals "NoName" = some (some (.ref a_NoName)))
    (n_TakenName : PySem.W.nsIn K mainGlobals "TakenName" = some (some (.ref a_TakenName)))
    (n_Unlike : PySem.W.nsIn K mainGlobals "Unlike" = some (some (.ref a_Unlike)))
    (n_NotThere : PySem.W.nsIn K mainGlobals "NotThere" = some (some (.ref a_NotThere)))
    (n_TooMany : PySem.W.nsIn K mainGlobals "TooMany" = some (some (.ref a_TooMany)))
    (n_NotKept : PySem.W.nsIn K mainGlobals "NotKept" = some (some (.ref a_NotKept)))
    (n_NothingToUndo : PySem.W.nsIn K mainGlobals "NothingToUndo" = some (some (.ref a_NothingToUndo)))
    (n_NothingToRedo : PySem.W.nsIn K mainGlobals "NothingToRedo" = some (some (.ref a_NothingToRedo)))
    (x_BadNumber : K.lookup a_BadNumber = some (excClassObj nm_BadNumber q_BadNumber a_BadNumber N_BadNumber bs_BadNumber bm_BadNumber true sn_BadNumber su_BadNumber ab_BadNumber co_BadNumber dd_BadNumber m0_BadNumber m1_BadNumber m2_BadNumber m3_BadNumber m5_BadNumber "ValueError.__new__"))
    (r_BadNumber : PySem.HandSPX.refsVE bm_BadNumber = true)
    (sa_BadNumber : PySem.W.findIn K (.ref a_BadNumber) "__setattr__" = some (some (.builtin "object.__setattr__")))
    (ec_BadNumber : PySem.W.subIn K (.ref a_BadNumber) (.type "BaseException") = some true)
    (tc_BadNumber : PySem.W.typeIn K (.ref a_BadNumber) = some (.type "type"))
    (kc_BadNumber : PySem.W.keepIn K (.ref a_BadNumber) = true)
    (fi_BadNumber : PySem.W.findIn K (.ref a_BadNumber) "__init__" = some (some (.ref ai_BadNumber)))
    (ti_BadNumber : PySem.W.typeIn K (.ref ai_BadNumber) = some (.type "function"))
    (li_BadNumber : K.lookup ai_BadNumber = some ⟨oI_BadNumber, eI_BadNumber, .func (PySem.W.fnOf "__init__" "BadNumber.__init__" (defArgs i_BadNumber) (defBody i_BadNumber) (defScope i_BadNumber) .none kI_BadNumber dI_BadNumber pI_BadNumber nI_BadNumber cI_BadNumber tI_BadNumber), sI_BadNumber⟩)
    (ci_BadNumber : PySem.W.codeIn K cI_BadNumber "BadNumber.__init__" = true)
    (ki_BadNumber : PySem.W.keepIn K (.ref ai_BadNumber) = true)
    (e1_BadNumber : PySem.W.isClsIn K a_BadNumber = true)
    (e2_BadNumber : PySem.W.findIn K (.ref a_BadNumber) "__getattribute__" = some (some (.builtin "BaseException.__getattribute__")))
    (e3_BadNumber : PySem.W.findIn K (.ref a_BadNumber) "__getattr__" = some none)
    (e4_BadNumber : PySem.W.findIn K (.ref a_BadNumber) "__class__" = some (some (.builtin "object.__class__")))
    (e5_BadNumber : PySem.W.mroIn K a_BadNumber (.type "object") = some true)
    (e6_BadNumber : PySem.W.hasDictIn K a_BadNumber = true)
    (is_BadNumber_BadNumber : PySem.W.kitOne K (.ref a_BadNumber) (.ref a_BadNumber) = some true)
    (is_BadNumber_BadRow : PySem.W.kitOne K (.ref a_BadNumber) (.ref a_BadRow) = some false)
    (is_BadNumber_BadTable : PySem.W.kitOne K (.ref a_BadNumber) (.ref a_BadTable) = some false)
    (is_BadNumber_BadQuadruple : PySem.W.kitOne K (.ref a_BadNumber) (.ref a_BadQuadruple) = some false)
    (is_BadNumber_BadWord : PySem.W.kitOne K (.ref a_BadNumber) (.ref a_BadWord) = some false)
    (is_BadNumber_BadName : PySem.W.kitOne K (.ref a_BadNumber) (.ref a_BadName) = some false)
    (is_BadNumber_BadText : PySem.W.kitOne K (.ref a_BadNumber) (.ref a_BadText) = some false)
    (is_BadNumber_NoPlace : PySem.W.kitOne K (.ref a_BadNumber) (.ref a_NoPlace) = some false)
    (is_BadNumber_NoName : PySem.W.kitOne K (.ref a_BadNumber) (.ref a_NoName) = some false)
    (is_BadNumber_TakenName : PySem.W.kitOne K (.ref a_BadNumber) (.ref a_TakenName) = some false)
    (is_BadNumber_Unlike : PySem.W.kitOne K (.ref a_BadNumber) (.ref a_Unlike) = some false)
    (is_BadNumber_NotThere : PySem.W.kitOne K (.ref a_BadNumber) (.ref a_NotThere) = some false)
    (is_BadNumber_TooMany : PySem.W.kitOne K (.ref a_BadNumber) (.ref a_TooMany) = some false)
    (is_BadNumber_NotKept : PySem.W.kitOne K (.ref a_BadNumber) (.ref a_NotKept) = some false)
    (is_BadNumber_NothingToUndo : PySem.W.kitOne K (.ref a_BadNumber) (.ref a_NothingToUndo) = some false)
    (is_BadNumber_NothingToRedo : PySem.W.kitOne K (.ref a_BadNumber) (.ref a_NothingToRedo) = some false)
    (iv_BadNumber : PySem.W.kitOne K (.ref a_BadNumber) (.type "ValueError") = some true)
    (eb_BadNumber : PySem.W.subIn K (.ref a_BadNumber) (.ref a_BendError) = some true)
    (xn_BadNumber_what : PySem.W.findIn K (.ref a_BadNumber) "what" = some none)
    (xn_BadNumber_number : PySem.W.findIn K (.ref a_BadNumber) "number" = some none)
    (b1 : PySem.W.subIn K (.ref a_BendError) (.type "BaseException") = some true)
    (b2 : PySem.W.hasDictIn K a_BendError = true)
    (b3 : PySem.W.typeIn K (.ref a_BendError) = some (.type "type"))
    (o1 : PySem.W.specialIn K (.builtin "object.__class__") "__get__" = some (some (.builtin "getset_descriptor.__get__")))
    (o2 : PySem.W.takesIn K (.builtin "object.__class__") = some true)
    (n_MOST_PRIME : PySem.W.nsIn K mainGlobals "MOST_PRIME" = some (some (.int 2000 t_MOST_PRIME)))
    (z_list : PySem.W.nsIn K mainGlobals "list" = some none)
    (z_int : PySem.W.nsIn K mainGlobals "int" = some none)
    (z_len : PySem.W.nsIn K mainGlobals "len" = some none)
    (z_isinstance : PySem.W.nsIn K mainGlobals "isinstance" = some none)
    (z_bool : PySem.W.nsIn K mainGlobals "bool" = some none)
    (z_ValueError : PySem.W.nsIn K mainGlobals "ValueError" = some none)
    (z_all : PySem.W.nsIn K mainGlobals "all" = some none)
    (z_range : PySem.W.nsIn K mainGlobals "range" = some none)
    (z_repr : PySem.W.nsIn K mainGlobals "repr" = some none)
    (z_tuple : PySem.W.nsIn K mainGlobals "tuple" = some none)
    (z_str : PySem.W.nsIn K mainGlobals "str" = some none)
    : ∃ A : Adr, A.a_law = fa ∧ Txt K mg A ∧ (∃ (oc : Value) (od : Option Addr) (kV doc pm : Value) (an : Option Addr) (ct : Value) (osl : Array (Option Value)), K.lookup fa = some ⟨oc, od, .func (PySem.W.fnOf "law" "law" (defArgs s_law) (defBody s_law) (defScope s_law) .none kV doc pm an (.ref cd_a) ct), osl⟩) ∧ PySem.W.codeIn K (.ref cd_a) "law" = true := by
  have e := hfa.symm.trans (PySem.W.mg_of X G n_law)
  cases e
  have F__law_pen := fun_mk (st := s__law_pen) l__law_pen c__law_pen k__law_pen
  have F__law_draw := fun_mk (st := s__law_draw) l__law_draw c__law_draw k__law_draw
  have F__law_prime_parts := fun_mk (st := s__law_prime_parts) l__law_prime_parts c__law_prime_parts k__law_prime_parts
  have F__law_drawn_prime := fun_mk (st := s__law_drawn_prime) l__law_drawn_prime c__law_drawn_prime k__law_drawn_prime
  have F__law_pick := fun_mk (st := s__law_pick) l__law_pick c__law_pick k__law_pick
  have F_is_integer := fun_mk (st := s_is_integer) l_is_integer c_is_integer k_is_integer
  have F_is_prime := fun_mk (st := s_is_prime) l_is_prime c_is_prime k_is_prime
  have F_root_by := fun_mk (st := s_root_by) l_root_by c_root_by k_root_by
  have F__law_more_kinds := fun_mk (st := s__law_more_kinds) l__law_more_kinds c__law_more_kinds k__law_more_kinds
  have F__law_kinds := fun_mk (st := s__law_kinds) l__law_kinds c__law_kinds k__law_kinds
  have F__law_fault := fun_mk (st := s__law_fault) l__law_fault c__law_fault k__law_fault
  have F__law_is := fun_mk (st := s__law_is) l__law_is c__law_is k__law_is
  have F__law_wide := fun_mk (st := s__law_wide) l__law_wide c__law_wide k__law_wide
  have F_sign_by_two := fun_mk (st := s_sign_by_two) l_sign_by_two c_sign_by_two k_sign_by_two
  have F_sign_in := fun_mk (st := s_sign_in) l_sign_in c_sign_in k_sign_in
  have F_sign_by := fun_mk (st := s_sign_by) l_sign_by c_sign_by k_sign_by
  have F_law := fun_mk (st := s_law) l_law c_law k_law
  have F_BadNumber := fun_mk (st := i_BadNumber) li_BadNumber ci_BadNumber ki_BadNumber
  let A : Adr := {
    a__law_pen := a__law_pen, d__law_pen := (PySem.W.fnOf "_law_pen" "_law_pen" (defArgs s__law_pen) (defBody s__law_pen) (defScope s__law_pen) .none kV__law_pen dc__law_pen pm__law_pen an__law_pen cd__law_pen ct__law_pen)
    a__law_draw := a__law_draw, d__law_draw := (PySem.W.fnOf "_law_draw" "_law_draw" (defArgs s__law_draw) (defBody s__law_draw) (defScope s__law_draw) .none kV__law_draw dc__law_draw pm__law_draw an__law_draw cd__law_draw ct__law_draw)
    a__law_prime_parts := a__law_prime_parts, d__law_prime_parts := (PySem.W.fnOf "_law_prime_parts" "_law_prime_parts" (defArgs s__law_prime_parts) (defBody s__law_prime_parts) (defScope s__law_prime_parts) .none kV__law_prime_parts dc__law_prime_parts pm__law_prime_parts an__law_prime_parts cd__law_prime_parts ct__law_prime_parts)
    a__law_drawn_prime := a__law_drawn_prime, d__law_drawn_prime := (PySem.W.fnOf "_law_drawn_prime" "_law_drawn_prime" (defArgs s__law_drawn_prime) (defBody s__law_drawn_prime) (defScope s__law_drawn_prime) .none kV__law_drawn_prime dc__law_drawn_prime pm__law_drawn_prime an__law_drawn_prime cd__law_drawn_prime ct__law_drawn_prime)
    a__law_pick := a__law_pick, d__law_pick := (PySem.W.fnOf "_law_pick" "_law_pick" (defArgs s__law_pick) (defBody s__law_pick) (defScope s__law_pick) .none kV__law_pick dc__law_pick pm__law_pick an__law_pick cd__law_pick ct__law_pick)
    a_is_integer := a_is_integer, d_is_integer := (PySem.W.fnOf "is_integer" "is_integer" (defArgs s_is_integer) (defBody s_is_integer) (defScope s_is_integer) .none kV_is_integer dc_is_integer pm_is_integer an_is_integer cd_is_integer ct_is_integer)
    a_is_prime := a_is_prime, d_is_prime := (PySem.W.fnOf "is_prime" "is_prime" (defArgs s_is_prime) (defBody s_is_prime) (defScope s_is_prime) .none kV_is_prime dc_is_prime pm_is_prime an_is_prime cd_is_prime ct_is_prime)
    a_root_by := a_root_by, d_root_by := (PySem.W.fnOf "root_by" "root_by" (defArgs s_root_by) (defBody s_root_by) (defScope s_root_by) .none kV_root_by dc_root_by pm_root_by an_root_by cd_root_by ct_root_by)
    a__law_more_kinds := a__law_more_kinds, d__law_more_kinds := (PySem.W.fnOf "_law_more_kinds" "_law_more_kinds" (defArgs s__law_more_kinds) (defBody s__law_more_kinds) (defScope s__law_more_kinds) .none kV__law_more_kinds dc__law_more_kinds pm__law_more_kinds an__law_more_kinds cd__law_more_kinds ct__law_more_kinds)
    a__law_kinds := a__law_kinds, d__law_kinds := (PySem.W.fnOf "_law_kinds" "_law_kinds" (defArgs s__law_kinds) (defBody s__law_kinds) (defScope s__law_kinds) .none kV__law_kinds dc__law_kinds pm__law_kinds an__law_kinds cd__law_kinds ct__law_kinds)
    a__law_fault := a__law_fault, d__law_fault := (PySem.W.fnOf "_law_fault" "_law_fault" (defArgs s__law_fault) (defBody s__law_fault) (defScope s__law_fault) .none kV__law_fault dc__law_fault pm__law_fault an__law_fault cd__law_fault ct__law_fault)
    a__law_is := a__law_is, d__law_is := (PySem.W.fnOf "_law_is" "_law_is" (defArgs s__law_is) (defBody s__law_is) (defScope s__law_is) .none kV__law_is dc__law_is pm__law_is an__law_is cd__law_is ct__law_is)
    a__law_wide := a__law_wide, d__law_wide := (PySem.W.fnOf "_law_wide" "_law_wide" (defArgs s__law_wide) (defBody s__law_wide) (defScope s__law_wide) .none kV__law_wide dc__law_wide pm__law_wide an__law_wide cd__law_wide ct__law_wide)
    a_sign_by_two := a_sign_by_two, d_sign_by_two := (PySem.W.fnOf "sign_by_two" "sign_by_two" (defArgs s_sign_by_two) (defBody s_sign_by_two) (defScope s_sign_by_two) .none kV_sign_by_two dc_sign_by_two pm_sign_by_two an_sign_by_two cd_sign_by_two ct_sign_by_two)
    a_sign_in := a_sign_in, d_sign_in := (PySem.W.fnOf "sign_in" "sign_in" (defArgs s_sign_in) (defBody s_sign_in) (defScope s_sign_in) .none kV_sign_in dc_sign_in pm_sign_in an_sign_in cd_sign_in ct_sign_in)
    a_sign_by := a_sign_by, d_sign_by := (PySem.W.fnOf "sign_by" "sign_by" (defArgs s_sign_by) (defBody s_sign_by) (defScope s_sign_by) .none kV_sign_by dc_sign_by pm_sign_by an_sign_by cd_sign_by ct_sign_by)
    a_law := fa, d_law := (PySem.W.fnOf "law" "law" (defArgs s_law) (defBody s_law) (defScope s_law) .none kV_law dc_law pm_law an_law (.ref cd_a) ct_law)
    c_BendError := a_BendError
    c_BadNumber := a_BadNumber
    ai_BadNumber := ai_BadNumber, di_BadNumber := (PySem.W.fnOf "__init__" "BadNumber.__init__" (defArgs i_BadNumber) (defBody i_BadNumber) (defScope i_BadNumber) .none kI_BadNumber dI_BadNumber pI_BadNumber nI_BadNumber cI_BadNumber tI_BadNumber)
    c_BadRow := a_BadRow
    ai_BadRow := 0, di_BadRow := (PySem.W.fnOf "law" "law" (defArgs s_law) (defBody s_law) (defScope s_law) .none kV_law dc_law pm_law an_law (.ref cd_a) ct_law)
    c_BadTable := a_BadTable
    ai_BadTable := 0, di_BadTable := (PySem.W.fnOf "law" "law" (defArgs s_law) (defBody s_law) (defScope s_law) .none kV_law dc_law pm_law an_law (.ref cd_a) ct_law)
    c_BadQuadruple := a_BadQuadruple
    ai_BadQuadruple := 0, di_BadQuadruple := (PySem.W.fnOf "law" "law" (defArgs s_law) (defBody s_law) (defScope s_law) .none kV_law dc_law pm_law an_law (.ref cd_a) ct_law)
    c_BadWord := a_BadWord
    ai_BadWord := 0, di_BadWord := (PySem.W.fnOf "law" "law" (defArgs s_law) (defBody s_law) (defScope s_law) .none kV_law dc_law pm_law an_law (.ref cd_a) ct_law)
    c_BadName := a_BadName
    ai_BadName := 0, di_BadName := (PySem.W.fnOf "law" "law" (defArgs s_law) (defBody s_law) (defScope s_law) .none kV_law dc_law pm_law an_law (.ref cd_a) ct_law)
    c_BadText := a_BadText
    ai_BadText := 0, di_BadText := (PySem.W.fnOf "law" "law" (defArgs s_law) (defBody s_law) (defScope s_law) .none kV_law dc_law pm_law an_law (.ref cd_a) ct_law)
    c_NoPlace := a_NoPlace
    ai_NoPlace := 0, di_NoPlace := (PySem.W.fnOf "law" "law" (defArgs s_law) (defBody s_law) (defScope s_law) .none kV_law dc_law pm_law an_law (.ref cd_a) ct_law)
    c_NoName := a_NoName
    ai_NoName := 0, di_NoName := (PySem.W.fnOf "law" "law" (defArgs s_law) (defBody s_law) (defScope s_law) .none kV_law dc_law pm_law an_law (.ref cd_a) ct_law)
    c_TakenName := a_TakenName
    ai_TakenName := 0, di_TakenName := (PySem.W.fnOf "law" "law" (defArgs s_law) (defBody s_law) (defScope s_law) .none kV_law dc_law pm_law an_law (.ref cd_a) ct_law)
    c_Unlike := a_Unlike
    ai_Unlike := 0, di_Unlike := (PySem.W.fnOf "law" "law" (defArgs s_law) (defBody s_law) (defScope s_law) .none kV_law dc_law pm_law an_law (.ref cd_a) ct_law)
    c_NotThere := a_NotThere
    ai_NotThere := 0, di_NotThere := (PySem.W.fnOf "law" "law" (defArgs s_law) (defBody s_law) (defScope s_law) .none kV_law dc_law pm_law an_law (.ref cd_a) ct_law)
    c_TooMany := a_TooMany
    ai_TooMany := 0, di_TooMany := (PySem.W.fnOf "law" "law" (defArgs s_law) (defBody s_law) (defScope s_law) .none kV_law dc_law pm_law an_law (.ref cd_a) ct_law)
    c_NotKept := a_NotKept
    ai_NotKept := 0, di_NotKept := (PySem.W.fnOf "law" "law" (defArgs s_law) (defBody s_law) (defScope s_law) .none kV_law dc_law pm_law an_law (.ref cd_a) ct_law)
    c_NothingToUndo := a_NothingToUndo
    c_NothingToRedo := a_NothingToRedo
    t_MOST_PRIME := t_MOST_PRIME
  }
  have T : Txt K mg A := {
    F__law_pen := F__law_pen
    g__law_pen := PySem.W.mg_of X G n__law_pen
    k__law_pen := k__law_pen
    b__law_pen := F__law_pen.binds (ps := ["script"]) (fun _ _ _ _ _ _ us hl => match us, hl with | [_], _ => rfl)
    F__law_draw := F__law_draw
    g__law_draw := PySem.W.mg_of X G n__law_draw
    k__law_draw := k__law_draw
    b__law_draw := F__law_draw.binds (ps := ["pen", "many"]) (fun _ _ _ _ _ _ us hl => match us, hl with | [_, _], _ => rfl)
    F__law_prime_parts := F__law_prime_parts
    g__law_prime_parts := PySem.W.mg_of X G n__law_prime_parts
    k__law_prime_parts := k__law_prime_parts
    b__law_prime_parts := F__law_prime_parts.binds (ps := ["number"]) (fun _ _ _ _ _ _ us hl => match us, hl with | [_], _ => rfl)
    F__law_drawn_prime := F__law_drawn_prime
    g__law_drawn_prime := PySem.W.mg_of X G n__law_drawn_prime
    k__law_drawn_prime := k__law_drawn_prime
    b__law_drawn_prime := F__law_drawn_prime.binds (ps := ["pen", "most"]) (fun _ _ _ _ _ _ us hl => match us, hl with | [_, _], _ => rfl)
    F__law_pick := F__law_pick
    g__law_pick := PySem.W.mg_of X G n__law_pick
    k__law_pick := k__law_pick
    b__law_pick := F__law_pick.binds (ps := ["pen", "some"]) (fun _ _ _ _ _ _ us hl => match us, hl with | [_, _], _ => rfl)
    F_is_integer := F_is_integer
    g_is_integer := PySem.W.mg_of X G n_is_integer
    k_is_integer := k_is_integer
    b_is_integer := F_is_integer.binds (ps := ["value"]) (fun _ _ _ _ _ _ us hl => match us, hl with | [_], _ => rfl)
    F_is_prime := F_is_prime
    g_is_prime := PySem.W.mg_of X G n_is_prime
    k_is_prime := k_is_prime
    b_is_prime := F_is_prime.binds (ps := ["number"]) (fun _ _ _ _ _ _ us hl => match us, hl with | [_], _ => rfl)
    F_root_by := F_root_by
    g_root_by := PySem.W.mg_of X G n_root_by
    k_root_by := k_root_by
    b_root_by := F_root_by.binds (ps := ["top", "prime"]) (fun _ _ _ _ _ _ us hl => match us, hl with | [_, _], _ => rfl)
    F__law_more_kinds := F__law_more_kinds
    g__law_more_kinds := PySem.W.mg_of X G n__law_more_kinds
    k__law_more_kinds := k__law_more_kinds
    b__law_more_kinds := F__law_more_kinds.binds (ps := ["e"]) (fun _ _ _ _ _ _ us hl => match us, hl with | [_], _ => rfl)
    F__law_kinds := F__law_kinds
    g__law_kinds := PySem.W.mg_of X G n__law_kinds
    k__law_kinds := k__law_kinds
    b__law_kinds := F__law_kinds.binds (ps := ["e"]) (fun _ _ _ _ _ _ us hl => match us, hl with | [_], _ => rfl)
    F__law_fault := F__law_fault
    g__law_fault := PySem.W.mg_of X G n__law_fault
    k__law_fault := k__law_fault
    b__law_fault := F__law_fault.binds (ps := ["call"]) (fun _ _ _ _ _ _ us hl => match us, hl with | [_], _ => rfl)
    F__law_is := F__law_is
    g__law_is := PySem.W.mg_of X G n__law_is
    k__law_is := k__law_is
    b__law_is := F__law_is.binds (ps := ["told", "due"]) (fun _ _ _ _ _ _ us hl => match us, hl with | [_, _], _ => rfl)
    F__law_wide := F__law_wide
    g__law_wide := PySem.W.mg_of X G n__law_wide
    k__law_wide := k__law_wide
    b__law_wide := F__law_wide.binds (ps := ["pen", "figures"]) (fun _ _ _ _ _ _ us hl => match us, hl with | [_, _], _ => rfl)
    F_sign_by_two := F_sign_by_two
    g_sign_by_two := PySem.W.mg_of X G n_sign_by_two
    k_sign_by_two := k_sign_by_two
    b_sign_by_two := F_sign_by_two.binds (ps := ["top"]) (fun _ _ _ _ _ _ us hl => match us, hl with | [_], _ => rfl)
    F_sign_in := F_sign_in
    g_sign_in := PySem.W.mg_of X G n_sign_in
    k_sign_in := k_sign_in
    b_sign_in := F_sign_in.binds (ps := ["top", "bottom"]) (fun _ _ _ _ _ _ us hl => match us, hl with | [_, _], _ => rfl)
    F_sign_by := F_sign_by
    g_sign_by := PySem.W.mg_of X G n_sign_by
    k_sign_by := k_sign_by
    b_sign_by := F_sign_by.binds (ps := ["top", "bottom"]) (fun _ _ _ _ _ _ us hl => match us, hl with | [_, _], _ => rfl)
    F_law := F_law
    g_law := PySem.W.mg_of X G n_law
    k_law := k_law
    b_law := F_law.binds (ps := ["script"]) (fun _ _ _ _ _ _ us hl => match us, hl with | [_], _ => rfl)
    m_list := PySem.W.mg_none_of X G z_list
    m_int := PySem.W.mg_none_of X G z_int
    m_len := PySem.W.mg_none_of X G z_len
    m_isinstance := PySem.W.mg_none_of X G z_isinstance
    m_bool := PySem.W.mg_none_of X G z_bool
    m_ValueError := PySem.W.mg_none_of X G z_ValueError
    m_all := PySem.W.mg_none_of X G z_all
    m_range := PySem.W.mg_none_of X G z_range
    m_repr := PySem.W.mg_none_of X G z_repr
    m_tuple := PySem.W.mg_none_of X G z_tuple
    m_str := PySem.W.mg_none_of X G z_str
    g_BendError := PySem.W.mg_of X G n_BendError
    g_BadNumber := PySem.W.mg_of X G n_BadNumber
    g_BadRow := PySem.W.mg_of X G n_BadRow
    g_BadTable := PySem.W.mg_of X G n_BadTable
    g_BadQuadruple := PySem.W.mg_of X G n_BadQuadruple
    g_BadWord := PySem.W.mg_of X G n_BadWord
    g_BadName := PySem.W.mg_of X G n_BadName
    g_BadText := PySem.W.mg_of X G n_BadText
    g_NoPlace := PySem.W.mg_of X G n_NoPlace
    g_NoName := PySem.W.mg_of X G n_NoName
    g_TakenName := PySem.W.mg_of X G n_TakenName
    g_Unlike := PySem.W.mg_of X G n_Unlike
    g_NotThere := PySem.W.mg_of X G n_NotThere
    g_TooMany := PySem.W.mg_of X G n_TooMany
    g_NotKept := PySem.W.mg_of X G n_NotKept
    g_NothingToUndo := PySem.W.mg_of X G n_NothingToUndo
    g_NothingToRedo := PySem.W.mg_of X G n_NothingToRedo
    g_MOST_PRIME := PySem.W.mg_of X G n_MOST_PRIME
    F_BadNumber := F_BadNumber
    x_BadNumber := ⟨⟨_, _, _, _, _, _, _, _, _, _, _, _, _, _, _, x_BadNumber, r_BadNumber⟩, sa_BadNumber, ec_BadNumber, tc_BadNumber, kc_BadNumber⟩
    xi_BadNumber := fi_BadNumber
    xt_BadNumber := ti_BadNumber
    xb_BadNumber := F_BadNumber.binds (ps := ["self", "what", "number"]) (fun _ _ _ _ _ _ us hl => match us, hl with | [_, _, _], _ => rfl)
    ef_BadNumber := ⟨e1_BadNumber, e2_BadNumber, e3_BadNumber, ec_BadNumber, e4_BadNumber, e5_BadNumber, e6_BadNumber, o1, o2⟩
    is_BadNumber_BadNumber := is_BadNumber_BadNumber
    is_BadNumber_BadRow := is_BadNumber_BadRow
    is_BadNumber_BadTable := is_BadNumber_BadTable
    is_BadNumber_BadQuadruple := is_BadNumber_BadQuadruple
    is_BadNumber_BadWord := is_BadNumber_BadWord
    is_BadNumber_BadName := is_BadNumber_BadName
    is_BadNumber_BadText := is_BadNumber_BadText
    is_BadNumber_NoPlace := is_BadNumber_NoPlace
    is_BadNumber_NoName := is_BadNumber_NoName
    is_BadNumber_TakenName := is_BadNumber_TakenName
    is_BadNumber_Unlike := is_BadNumber_Unlike
    is_BadNumber_NotThere := is_BadNumber_NotThere
    is_BadNumber_TooMany := is_BadNumber_TooMany
    is_BadNumber_NotKept := is_BadNumber_NotKept
    is_BadNumber_NothingToUndo := is_BadNumber_NothingToUndo
    is_BadNumber_NothingToRedo := is_BadNumber_NothingToRedo
    iv_BadNumber := iv_BadNumber
    ex_BadNumber := PySem.W.exm_ref b1 b2 b3 eb_BadNumber
    xn_BadNumber_what := xn_BadNumber_what
    xn_BadNumber_number := xn_BadNumber_number
  }
  exact ⟨A, rfl, T, ⟨_, _, _, _, _, _, _, _, l_law⟩, c_law⟩
end K54
open PySem PySem.W PyProof.Rows
set_option maxRecDepth 100000 in
set_option maxHeartbeats 0 in
theorem PySem.Challenge.cw_fourbends_k54_whole_roots_by_primes_holds : PySem.Challenge.rw_fourbends_k54_whole_roots_by_primes.Holds := by
  w_on; o_law; k_head; (case hw => w_witness2)
  refine DL.walk_goes (l := PySem.Challenge.rw_fourbends_k54_whole_roots_by_primes) (n := 63) rfl (by decide) rfl (fun w h Y => km_in_of Y) ?F
  case F =>
    intro w mg fa h Y KX G hmg
    refine' K54.law_end (K54.all_mk KX G hmg ?n__law_pen ?l__law_pen ?c__law_pen ?k__law_pen ?n__law_draw ?l__law_draw ?c__law_draw ?k__law_draw ?n__law_prime_parts ?l__law_prime_parts ?c__law_prime_parts ?k__law_prime_parts ?n__law_drawn_prime ?l__law_drawn_prime ?c__law_drawn_prime ?k__law_drawn_prime ?n__law_pick ?l__law_pick ?c__law_pick ?k__law_pick ?n_is_integer ?l_is_integer ?c_is_integer ?k_is_integer ?n_is_prime ?l_is_prime ?c_is_prime ?k_is_prime ?n_root_by ?l_root_by ?c_root_by ?k_root_by ?n__law_more_kinds ?l__law_more_kinds ?c__law_more_kinds ?k__law_more_kinds ?n__law_kinds ?l__law_kinds ?c__law_kinds ?k__law_kinds ?n__law_fault ?l__law_fault ?c__law_fault ?k__law_fault ?n__law_is ?l__law_is ?c__law_is ?k__law_is ?n__law_wide ?l__law_wide ?c__law_wide ?k__law_wide ?n_sign_by_two ?l_sign_by_two ?c_sign_by_two ?k_sign_by_two ?n_sign_in ?l_sign_in ?c_sign_in ?k_sign_in ?n_sign_by ?l_sign_by ?c_sign_by ?k_sign_by ?n_law ?l_law ?c_law ?k_law ?n_BendError ?n_BadNumber ?n_BadRow ?n_BadTable ?n_BadQuadruple ?n_BadWord ?n_BadName ?n_BadText ?n_NoPlace ?n_NoName ?n_TakenName ?n_Unlike ?n_NotThere ?n_TooMany ?n_NotKept ?n_NothingToUndo ?n_NothingToRedo ?x_BadNumber ?r_BadNumber ?sa_BadNumber ?ec_BadNumber ?tc_BadNumber ?kc_BadNumber ?fi_BadNumber ?ti_BadNumber ?li_BadNumber ?ci_BadNumber ?ki_BadNumber ?e1_BadNumber ?e2_BadNumber ?e3_BadNumber ?e4_BadNumber ?e5_BadNumber ?e6_BadNumber ?is_BadNumber_BadNumber ?is_BadNumber_BadRow ?is_BadNumber_BadTable ?is_BadNumber_BadQuadruple ?is_BadNumber_BadWord ?is_BadNumber_BadName ?is_BadNumber_BadText ?is_BadNumber_NoPlace ?is_BadNumber_NoName ?is_BadNumber_TakenName ?is_BadNumber_Unlike ?is_BadNumber_NotThere ?is_BadNumber_TooMany ?is_BadNumber_NotKept ?is_BadNumber_NothingToUndo ?is_BadNumber_NothingToRedo ?iv_BadNumber ?eb_BadNumber ?xn_BadNumber_what ?xn_BadNumber_number ?b1 ?b2 ?b3 ?o1 ?o2 ?n_MOST_PRIME ?z_list ?z_int ?z_len ?z_isinstance ?z_bool ?z_ValueError ?z_all ?z_range ?z_repr ?z_tuple ?z_str) (km_tabs_of Y _ List.mem_cons_self) ?nt ?hd
    (case n__law_pen => k_is)
    (case l__law_pen => k_is)
    (case c__law_pen => k_is)
    (case k__law_pen => k_is)
    (case n__law_draw => k_is)
    (case l__law_draw => k_is)
    (case c__law_draw => k_is)
    (case k__law_draw => k_is)
    (case n__law_prime_parts => k_is)
    (case l__law_prime_parts => k_is)
    (case c__law_prime_parts => k_is)
    (case k__law_prime_parts => k_is)
    (case n__law_drawn_prime => k_is)
    (case l__law_drawn_prime => k_is)
    (case c__law_drawn_prime => k_is)
    (case k__law_drawn_prime => k_is)
    (case n__law_pick => k_is)
    (case l__law_pick => k_is)
    (case c__law_pick => k_is)
    (case k__law_pick => k_is)
    (case n_is_integer => k_is)
    (case l_is_integer => k_is)
    (case c_is_integer => k_is)
    (case k_is_integer => k_is)
    (case n_is_prime => k_is)
    (case l_is_prime => k_is)
    (case c_is_prime => k_is)
    (case k_is_prime => k_is)
    (case n_root_by => k_is)
    (case l_root_by => k_is)
    (case c_root_by => k_is)
    (case k_root_by => k_is)
    (case n__law_more_kinds => k_is)
    (case l__law_more_kinds => k_is)
    (case c__law_more_kinds => k_is)
    (case k__law_more_kinds => k_is)
    (case n__law_kinds => k_is)
    (case l__law_kinds => k_is)
    (case c__law_kinds => k_is)
    (case k__law_kinds => k_is)
    (case n__law_fault => k_is)
    (case l__law_fault => k_is)
    (case c__law_fault => k_is)
    (case k__law_fault => k_is)
    (case n__law_is => k_is)
    (case l__law_is => k_is)
    (case c__law_is => k_is)
    (case k__law_is => k_is)
    (case n__law_wide => k_is)
    (case l__law_wide => k_is)
    (case c__law_wide => k_is)
    (case k__law_wide => k_is)
    (case n_sign_by_two => k_is)
    (case l_sign_by_two => k_is)
    (case c_sign_by_two => k_is)
    (case k_sign_by_two => k_is)
    (case n_sign_in => k_is)
    (case l_sign_in => k_is)
    (case c_sign_in => k_is)
    (case k_sign_in => k_is)
    (case n_sign_by => k_is)
    (case l_sign_by => k_is)
    (case c_sign_by => k_is)
    (case k_sign_by => k_is)
    (case n_law => k_is)
    (case l_law => k_is)
    (case c_law => k_is)
    (case k_law => k_is)
    (case n_BendError => k_is)
    (case n_BadNumber => k_is)
    (case n_BadRow => k_is)
    (case n_BadTable => k_is)
    (case n_BadQuadruple => k_is)
    (case n_BadWord => k_is)
    (case n_BadName => k_is)
    (case n_BadText => k_is)
    (case n_NoPlace => k_is)
    (case n_NoName => k_is)
    (case n_TakenName => k_is)
    (case n_Unlike => k_is)
    (case n_NotThere => k_is)
    (case n_TooMany => k_is)
    (case n_NotKept => k_is)
    (case n_NothingToUndo => k_is)
    (case n_NothingToRedo => k_is)
    (case x_BadNumber => k_is)
    (case r_BadNumber => decide +kernel)
    (case sa_BadNumber => k_is)
    (case ec_BadNumber => k_is)
    (case tc_BadNumber => k_is)
    (case kc_BadNumber => k_is)
    (case fi_BadNumber => k_is)
    (case ti_BadNumber => k_is)
    (case li_BadNumber => k_is)
    (case ci_BadNumber => k_is)
    (case ki_BadNumber => k_is)
    (case e1_BadNumber => k_is)
    (case e2_BadNumber => k_is)
    (case e3_BadNumber => k_is)
    (case e4_BadNumber => k_is)
    (case e5_BadNumber => k_is)
    (case e6_BadNumber => k_is)
    (case is_BadNumber_BadNumber => first | k_is | kit_is)
    (case is_BadNumber_BadRow => first | k_is | kit_is)
    (case is_BadNumber_BadTable => first | k_is | kit_is)
    (case is_BadNumber_BadQuadruple => first | k_is | kit_is)
    (case is_BadNumber_BadWord => first | k_is | kit_is)
    (case is_BadNumber_BadName => first | k_is | kit_is)
    (case is_BadNumber_BadText => first | k_is | kit_is)
    (case is_BadNumber_NoPlace => first | k_is | kit_is)
    (case is_BadNumber_NoName => first | k_is | kit_is)
    (case is_BadNumber_TakenName => first | k_is | kit_is)
    (case is_BadNumber_Unlike => first | k_is | kit_is)
    (case is_BadNumber_NotThere => first | k_is | kit_is)
    (case is_BadNumber_TooMany => first | k_is | kit_is)
    (case is_BadNumber_NotKept => first | k_is | kit_is)
    (case is_BadNumber_NothingToUndo => first | k_is | kit_is)
    (case is_BadNumber_NothingToRedo => first | k_is | kit_is)
    (case iv_BadNumber => first | k_is | kit_is)
    (case eb_BadNumber => k_is)
    (case xn_BadNumber_what => k_is)
    (case xn_BadNumber_number => k_is)
    (case b1 => k_is)
    (case b2 => k_is)
    (case b3 => k_is)
    (case o1 => k_is)
    (case o2 => k_is)
    (case n_MOST_PRIME => k_is)
    (case z_list => k_is)
    (case z_int => k_is)
    (case z_len => k_is)
    (case z_isinstance => k_is)
    (case z_bool => k_is)
    (case z_ValueError => k_is)
    (case z_all => k_is)
    (case z_range => k_is)
    (case z_repr => k_is)
    (case z_tuple => k_is)
    (case z_str => k_is)
    (case nt => first | kernel_rfl | k_is)
    (case hd => exact codeHd_of_K KX (by kernel_rfl))
#print axioms PySem.Challenge.cw_fourbends_k54_whole_roots_by_primes_holds
